import PyProof.Rows.All
import Wide.All
import OpenK.AllK
import Wide.FinOn
import PyProof.EqLayable
import PyProof.ReprReads
import HandS.ForExc
import HandS.Comp
import HandS.Iter
import HandS.IsInst
import HandS.Wide
import HandS.TupAny
import HandS.TupMul
import HandS.Style
import HandS.Flow
import HandS.More
import KE.GoesEnum
import KE.GoesMore
import KE.GoesZip
import KE.KExcSuper
import HandS.ExcInit
import HandS.ExcField
import HandS.TryMany
import PyProof.ListRange
import PyProof.ReprLen
import PyProof.Ascii
import PyProof.Rows.RegStrFacts
import PySem.Challenge.RW_levelpurses_k60_whole_moves_that_mix
set_option Elab.async false
set_option linter.all false
set_option maxRecDepth 100000
set_option maxHeartbeats 4000000
/-! The pure layer: what a Python expression or statement asks, over plain data. -/
namespace PL
open PySem

abbrev D := PyData
inductive Exn where
  | malformed
  | refused (r : Str)
  | noText (i : Int)
/-- what stands in a def's slot: nothing known; data that never changes; a list of the def's own; the law's draw; a range; the script -/
inductive Sl where
  | emp
  | val (d : D)
  | own (ds : List D)
  | nst (rows : List (List D))
  | draw
  | rng (lo hi : Int)
  | scr
abbrev Env := List Sl
abbrev EX := Exn → Prop
abbrev uE := Env → (D → Prop) → EX → Prop
abbrev uF := Env → (List D → Prop) → EX → Prop
abbrev uC := Env → (Bool → Prop) → EX → Prop
structure Ends where
  nx : Env → Prop
  rt : D → Prop
  bk : Env → Prop
  ct : Env → Prop
  ex : EX
abbrev uS := Ends → Env → Prop
abbrev Con := List D → (D → Prop) → EX → Prop
@[simp] abbrev LN : Nat := 1000000
def noEx : EX := fun _ => False

/-! ### expressions -/
@[simp] def e_c (d : D) (_ρ : Env) (Q : D → Prop) (_x : EX) : Prop := Q d
@[simp] def vOf : Option Sl → (D → Prop) → Prop
  | some (.val d), Q => Q d
  | _, _ => False
@[simp] def bOf : Option Sl → (D → Prop) → Prop
  | some (.val d), Q => Q d
  | some (.own ds), Q => Q (.list ds)
  | _, _ => False
@[simp] def e_v (i : Nat) (ρ : Env) (Q : D → Prop) (_x : EX) : Prop := vOf ρ[i]? Q
@[simp] def b_v (i : Nat) (ρ : Env) (Q : D → Prop) (_x : EX) : Prop := bOf ρ[i]? Q
@[simp] def e_f (t : uF) (ρ : Env) (Q : D → Prop) (x : EX) : Prop := t ρ (fun ds => Q (.list ds)) x
abbrev Op1 := D → (D → Prop) → Prop
abbrev Op2 := D → D → (D → Prop) → Prop
@[simp] def e_op (f : Op2) (a b : uE) (ρ : Env) (Q : D → Prop) (x : EX) : Prop := a ρ (fun u => b ρ (fun v => f u v Q) x) x
@[simp] def e_un (f : Op1) (a : uE) (ρ : Env) (Q : D → Prop) (x : EX) : Prop := a ρ (fun u => f u Q) x

def mulOk (i j : Int) : Prop := i.natAbs.log2 + j.natAbs.log2 < 1000000
def divOk (j : Int) : Prop := j ≠ 0 ∧ j.natAbs.log2 < 9000
@[simp] def o_add : Op2
  | .int i, .int j, Q => Q (.int (i + j))
  | .str s, .str t, Q => s.length + t.length ≤ LN ∧ Q (.str (s ++ t))
  | .tuple xs, .tuple ys, Q => xs.length + ys.length ≤ LN ∧ Q (.tuple (xs ++ ys))
  | .list xs, .list ys, Q => xs.length + ys.length ≤ LN ∧ Q (.list (xs ++ ys))
  | _, _, _ => False
@[simp] def o_sub : Op2
  | .int i, .int j, Q => Q (.int (i - j))
  | _, _, _ => False
@[simp] def o_mul : Op2
  | .int i, .int j, Q => mulOk i j ∧ Q (.int (i * j))
  | .tuple xs, .int k, Q => (-1000000 ≤ k ∧ k ≤ 1000 ∧ xs.length ≤ 1000) ∧ Q (.tuple (List.replicate k.toNat xs).flatten)
  | .list xs, .int k, Q => (0 ≤ k ∧ k ≤ 1000 ∧ xs.length ≤ 1000) ∧ Q (.list (List.replicate k.toNat xs).flatten)
  | _, _, _ => False
@[simp] def o_fdiv : Op2
  | .int i, .int j, Q => divOk j ∧ Q (.int (i.fdiv j))
  | _, _, _ => False
@[simp] def o_mod : Op2
  | .int i, .int j, Q => j ≠ 0 ∧ Q (.int (i.fmod j))
  | _, _, _ => False
@[simp] def o_lt : Op2
  | .int i, .int j, Q => Q (.bool (decide (i < j)))
  | _, _, _ => False
@[simp] def o_le : Op2
  | .int i, .int j, Q => Q (.bool (decide (i ≤ j)))
  | _, _, _ => False
@[simp] def o_gt : Op2
  | .int i, .int j, Q => Q (.bool (decide (j < i)))
  | _, _, _ => False
@[simp] def o_ge : Op2
  | .int i, .int j, Q => Q (.bool (decide (j ≤ i)))
  | _, _, _ => False
def o_eq : Op2
  | .int i, .int j, Q => Q (.bool (i == j))
  | u, v, Q => (SeqAt.shaped u = true ∧ SeqAt.shaped v = true) ∧ Q (.bool (PyData.eqv u v))
def o_ne : Op2
  | .int i, .int j, Q => Q (.bool (!(i == j)))
  | u, v, Q => (SeqAt.shaped u = true ∧ SeqAt.shaped v = true) ∧ Q (.bool (!PyData.eqv u v))
@[simp] theorem o_eq_int (i j : Int) (Q : D → Prop) : o_eq (.int i) (.int j) Q = Q (.bool (i == j)) := rfl
@[simp] theorem o_ne_int (i j : Int) (Q : D → Prop) : o_ne (.int i) (.int j) Q = Q (.bool (!(i == j))) := rfl
@[simp] def isNone : D → Bool
  | .none => true
  | _ => false
@[simp] def o_isN : Op1 := fun u Q => Q (.bool (isNone u))
@[simp] def o_notN : Op1 := fun u Q => Q (.bool (!isNone u))
@[simp] def o_isB (b : Bool) : Op1
  | .bool c, Q => Q (.bool (decide (c = b)))
  | _, _ => False
@[simp] def o_notB (b : Bool) : Op1
  | .bool c, Q => Q (.bool (!decide (c = b)))
  | _, _ => False
@[simp] def o_neg : Op1
  | .int i, Q => Q (.int (-i))
  | _, _ => False
def memD (u : D) : List D → Bool
  | [] => false
  | v :: r => PyData.eqv v u || memD u r
/-- u in xs, over flat things -/
def flatD : D → Bool
  | .none => true
  | .bool _ => true
  | .int _ => true
  | .str _ => true
  | _ => false

/-! ### tests, and, or, not, if -/
@[simp] def kOf (Q : Bool → Prop) : D → Prop
  | .bool b => Q b
  | _ => False
@[simp] def c_e (t : uE) (ρ : Env) (Q : Bool → Prop) (x : EX) : Prop := t ρ (kOf Q) x
@[simp] def c_and (a b : uC) (ρ : Env) (Q : Bool → Prop) (x : EX) : Prop := a ρ (fun k => if k = true then b ρ Q x else Q false) x
@[simp] def c_or (a b : uC) (ρ : Env) (Q : Bool → Prop) (x : EX) : Prop := a ρ (fun k => if k = true then Q true else b ρ Q x) x
@[simp] def c_not (a : uC) (ρ : Env) (Q : Bool → Prop) (x : EX) : Prop := a ρ (fun k => Q (!k)) x
@[simp] def e_and (a b : uE) (ρ : Env) (Q : D → Prop) (x : EX) : Prop := a ρ (kOf fun k => if k = true then b ρ Q x else Q (.bool false)) x
@[simp] def e_or (a b : uE) (ρ : Env) (Q : D → Prop) (x : EX) : Prop := a ρ (kOf fun k => if k = true then Q (.bool true) else b ρ Q x) x
@[simp] def e_not (a : uE) (ρ : Env) (Q : D → Prop) (x : EX) : Prop := a ρ (kOf fun k => Q (.bool (!k))) x
@[simp] def e_if (c : uC) (a b : uE) (ρ : Env) (Q : D → Prop) (x : EX) : Prop := c ρ (fun k => if k = true then a ρ Q x else b ρ Q x) x
/-- a op b op' c -/
@[simp] def e_ch (f g : Op2) (a b c : uE) (ρ : Env) (Q : D → Prop) (x : EX) : Prop :=
  a ρ (fun u => b ρ (fun v => f u v (kOf fun k => if k = true then c ρ (fun z => g v z Q) x else Q (.bool false))) x) x

/-! ### tuples, lists, calls -/
@[simp] def a_nil (_ρ : Env) (Q : List D → Prop) (_x : EX) : Prop := Q []
@[simp] def a_cons (t : uE) (r : uF) (ρ : Env) (Q : List D → Prop) (x : EX) : Prop := t ρ (fun d => r ρ (fun ds => Q (d :: ds)) x) x
@[simp] def isDraw : Option Sl → Prop
  | some .draw => True
  | _ => False
@[simp] def a_draw (i : Nat) (r : uF) (ρ : Env) (Q : List D → Prop) (x : EX) : Prop := isDraw ρ[i]? ∧ r ρ (fun ds => Q (.none :: ds)) x
@[simp] def e_tup (t : uF) (ρ : Env) (Q : D → Prop) (x : EX) : Prop := t ρ (fun ds => ds.length ≤ LN ∧ Q (.tuple ds)) x
/-- a list of the def's own by + or * -/
@[simp] def listOf (Q : List D → Prop) : D → Prop
  | .list ds => Q ds
  | _ => False
@[simp] def f_op (f : Op2) (a b : uE) (ρ : Env) (Q : List D → Prop) (x : EX) : Prop := e_op f a b ρ (listOf Q) x
@[simp] def f_lst (t : uF) (ρ : Env) (Q : List D → Prop) (x : EX) : Prop := t ρ (fun ds => ds.length ≤ LN ∧ Q ds) x
@[simp] def e_call (C : Con) (t : uF) (ρ : Env) (Q : D → Prop) (x : EX) : Prop := t ρ (fun ds => C ds Q x) x

def at_ (xs : List D) (i : Int) : Option D := if 0 ≤ i then xs[i.toNat]? else if -(xs.length : Int) ≤ i then xs[(i + xs.length).toNat]? else none
@[simp] def oOf (Q : D → Prop) : Option D → Prop
  | some d => Q d
  | none => False
@[simp] def o_ix : Op2
  | .tuple xs, .int i, Q => oOf Q (at_ xs i)
  | .list xs, .int i, Q => oOf Q (at_ xs i)
  | _, _, _ => False
def clampIx (n dflt : Nat) : Option Int → Nat
  | none => dflt
  | some i => if 0 ≤ i then min i.toNat n else (i + n).toNat
def cut (xs : List D) (lo hi : Option Int) : List D := (xs.drop (clampIx xs.length 0 lo)).take (clampIx xs.length xs.length hi - clampIx xs.length 0 lo)
@[simp] def iOf (Q : Option Int → Prop) : D → Prop
  | .int i => Q (some i)
  | _ => False
abbrev uP := Env → (Option Int → Prop) → EX → Prop
@[simp] def p_none (_ρ : Env) (Q : Option Int → Prop) (_x : EX) : Prop := Q none
@[simp] def p_some (t : uE) (ρ : Env) (Q : Option Int → Prop) (x : EX) : Prop := t ρ (iOf Q) x
@[simp] def o_sl (lo hi : Option Int) : Op1
  | .tuple xs, Q => Q (.tuple (cut xs lo hi))
  | .list xs, Q => Q (.list (cut xs lo hi))
  | _, _ => False
@[simp] def e_sl (a : uE) (l h : uP) (ρ : Env) (Q : D → Prop) (x : EX) : Prop := a ρ (fun u => l ρ (fun lo => h ρ (fun hi => o_sl lo hi u Q) x) x) x
@[simp] def o_len : Op1
  | .tuple xs, Q => Q (.int xs.length)
  | .list xs, Q => Q (.int xs.length)
  | .str s, Q => s.length ≤ LN ∧ Q (.int s.length)
  | _, _ => False
@[simp] def o_abs : Op1
  | .int i, Q => Q (.int (if i < 0 then -i else i))
  | _, _ => False
@[simp] def o_int : Op1
  | .int i, Q => Q (.int i)
  | .bool b, Q => Q (.int (if b then 1 else 0))
  | _, _ => False
inductive Ty where | tInt | tBool | tStr | tTuple | tList | tDict
  deriving DecidableEq
@[simp] def isTy : Ty → D → Bool
  | .tInt, .int _ => true
  | .tInt, .bool _ => true
  | .tBool, .bool _ => true
  | .tStr, .str _ => true
  | .tTuple, .tuple _ => true
  | .tList, .list _ => true
  | _, _ => false
@[simp] def o_isin (T : Ty) : Op1 := fun u Q => Q (.bool (isTy T u))
@[simp] def o_tuple : Op1
  | .tuple xs, Q => Q (.tuple xs)
  | .list xs, Q => Q (.tuple xs)
  | _, _ => False
@[simp] def seqQ (Q : List D → Prop) : D → Prop
  | .list xs => Q xs
  | .tuple xs => Q xs
  | _ => False
@[simp] def f_list (t : uE) (ρ : Env) (Q : List D → Prop) (x : EX) : Prop := t ρ (seqQ Q) x
@[simp] def intsOf : List D → Option (List Int)
  | [] => some []
  | .int i :: r => (intsOf r).map (i :: ·)
  | _ => none
@[simp] def boolsOf : List D → Option (List Bool)
  | [] => some []
  | .bool i :: r => (boolsOf r).map (i :: ·)
  | _ => none
@[simp] def someOf {α : Type} (Q : α → Prop) : Option α → Prop
  | some a => Q a
  | none => False
@[simp] def o_sum : Op1 := fun d Q => seqQ (fun xs => someOf (fun ns : List Int => Q (.int ns.sum)) (intsOf xs)) d
/-- max(xs), min(xs) of a list or a tuple of ints -/
@[simp] def o_maxS : Op1 := fun d Q => seqQ (fun xs => someOf (fun ns : List Int => 0 < ns.length ∧ ∀ m, m ∈ ns → (∀ y, y ∈ ns → y ≤ m) → Q (.int m)) (intsOf xs)) d
@[simp] def o_minS : Op1 := fun d Q => seqQ (fun xs => someOf (fun ns : List Int => 0 < ns.length ∧ ∀ m, m ∈ ns → (∀ y, y ∈ ns → m ≤ y) → Q (.int m)) (intsOf xs)) d
@[simp] def o_all : Op1
  | .list xs, Q => someOf (fun ns : List Bool => Q (.bool (ns.all id))) (boolsOf xs)
  | _, _ => False
@[simp] def o_any : Op1
  | .list xs, Q => someOf (fun ns : List Bool => Q (.bool (ns.any id))) (boolsOf xs)
  | _, _ => False
@[simp] def o_max : Op2
  | .int i, .int j, Q => Q (.int (if j > i then j else i))
  | _, _, _ => False
@[simp] def o_min : Op2
  | .int i, .int j, Q => Q (.int (if j < i then j else i))
  | _, _, _ => False
@[simp] def o_min3 : D → D → D → (D → Prop) → Prop
  | .int i, .int j, .int k, Q => Q (.int (if j < i then (if k < j then k else j) else (if k < i then k else i)))
  | _, _, _, _ => False
@[simp] def e_op3 (f : D → D → D → (D → Prop) → Prop) (a b c : uE) (ρ : Env) (Q : D → Prop) (x : EX) : Prop := a ρ (fun u => b ρ (fun v => c ρ (fun w => f u v w Q) x) x) x
def showOk (d : D) : Prop := PyData.showable d = true ∧ PyData.hasDict d = false ∧ (PyData.shown d).length ≤ LN ∧ PyData.depth d ≤ 60
@[simp] def o_repr : Op1 := fun d Q => showOk d ∧ Q (.str (PyData.shown d))

/-! ### what is walked -/
abbrev uI := uF
def upTo (lo : Int) : Nat → List D
  | 0 => []
  | n + 1 => .int lo :: upTo (lo + 1) n
def stepTo (lo c : Int) : Nat → List D
  | 0 => []
  | n + 1 => .int lo :: stepTo (lo + c) c n
@[simp] def i_seq (t : uE) (ρ : Env) (Q : List D → Prop) (x : EX) : Prop := t ρ (seqQ Q) x
@[simp] def nOf (Q : Int → Prop) : D → Prop
  | .int i => Q i
  | _ => False
def rOk (i : Int) : Prop := -1000000000 ≤ i ∧ i ≤ 1000000000
@[simp] def i_rng1 (t : uE) (ρ : Env) (Q : List D → Prop) (x : EX) : Prop := t ρ (nOf fun j => rOk j ∧ Q (upTo 0 j.toNat)) x
@[simp] def i_rng2 (a b : uE) (ρ : Env) (Q : List D → Prop) (x : EX) : Prop := a ρ (nOf fun i => b ρ (nOf fun j => (rOk i ∧ rOk j) ∧ Q (upTo i (j - i).toNat)) x) x
/-- range(i, j, -1) -/
@[simp] def i_rngD (a b : uE) (ρ : Env) (Q : List D → Prop) (x : EX) : Prop := a ρ (nOf fun i => b ρ (nOf fun j => (rOk i ∧ rOk j) ∧ Q (stepTo i (-1) (i - j).toNat)) x) x
@[simp] def rgOf (Q : List D → Prop) : Option Sl → Prop
  | some (.rng lo hi) => (rOk lo ∧ rOk hi) ∧ Q (upTo lo (hi - lo).toNat)
  | _ => False
@[simp] def i_rngV (i : Nat) (ρ : Env) (Q : List D → Prop) (_x : EX) : Prop := rgOf Q ρ[i]?
@[simp] def pairUp : List D → List D → List D
  | a :: r, b :: s => .tuple [a, b] :: pairUp r s
  | _, _ => []
/-- enumerate(t) -/
@[simp] def i_num (t : uE) (ρ : Env) (Q : List D → Prop) (x : EX) : Prop := t ρ (seqQ fun ds => Q (pairUp (upTo 0 ds.length) ds)) x
/-- zip(a, b) -/
@[simp] def i_zip2 (a b : uE) (ρ : Env) (Q : List D → Prop) (x : EX) : Prop := a ρ (seqQ fun ds => b ρ (seqQ fun es => Q (pairUp ds es)) x) x
@[simp] def i_zip (a b : uI) (ρ : Env) (Q : List D → Prop) (x : EX) : Prop := a ρ (fun ds => b ρ (fun es => Q (pairUp ds es)) x) x
@[simp] def i_enum (a : uI) (ρ : Env) (Q : List D → Prop) (x : EX) : Prop := a ρ (fun ds => Q (pairUp (upTo 0 ds.length) ds)) x

/-! ### targets -/
abbrev uG := D → Env → (Env → Prop) → Prop
abbrev uGs := List D → Env → (Env → Prop) → Prop
@[simp] def g_n (i : Nat) (d : D) (ρ : Env) (Q : Env → Prop) : Prop := Q (ρ.set i (.val d))
@[simp] def g_nil : uGs
  | [], ρ, Q => Q ρ
  | _ :: _, _, _ => False
@[simp] def g_cons (g : uG) (r : uGs) : uGs
  | [], _, _ => False
  | d :: ds, ρ, Q => g d ρ fun ρ' => r ds ρ' Q
@[simp] def g_tup (gs : uGs) : uG
  | .tuple ds, ρ, Q => gs ds ρ Q
  | _, _, _ => False

/-! ### comprehensions -/
@[simp] def wipeE (ρ : Env) : List Nat → Env
  | [] => ρ
  | v :: vs => (wipeE ρ vs).set v .emp
@[simp] def lcL (g : uG) (c : uC) (e : uE) (ρ : Env) (Q : List D → Prop) : List D → List D → Prop
  | [], acc => Q acc
  | d :: ds, acc => g d ρ fun ρ' => c ρ' (fun k => if k = true then e ρ' (fun v => lcL g c e ρ Q ds (acc ++ [v])) noEx else lcL g c e ρ Q ds acc) noEx
@[simp] def f_lc (vs : List Nat) (it : uI) (g : uG) (c : uC) (e : uE) (ρ : Env) (Q : List D → Prop) (x : EX) : Prop := it ρ (fun ds => ds.length ≤ LN ∧ lcL g c e (wipeE ρ vs) Q ds []) x
/-- the inner loop of [e for g in .. if c for g1 in it1 if c1] -/
def lcI (g1 : uG) (c1 : uC) (e : uE) (ρ : Env) (Q : List D → Prop) : List D → List D → Prop
  | [], acc => Q acc
  | d :: ds, acc => g1 d ρ fun ρ' => c1 ρ' (fun k => if k = true then e ρ' (fun v => acc.length < LN ∧ lcI g1 c1 e ρ Q ds (acc ++ [v])) noEx else lcI g1 c1 e ρ Q ds acc) noEx
def lcO (g : uG) (c : uC) (it1 : uI) (vs1 : List Nat) (g1 : uG) (c1 : uC) (e : uE) (ρ : Env) (Q : List D → Prop) : List D → List D → Prop
  | [], acc => Q acc
  | d :: ds, acc => g d ρ fun ρ' => c ρ' (fun k => if k = true then it1 ρ' (fun es => lcI g1 c1 e (wipeE ρ' vs1) (fun a => lcO g c it1 vs1 g1 c1 e ρ Q ds a) es acc) noEx else lcO g c it1 vs1 g1 c1 e ρ Q ds acc) noEx
def f_lc2 (vs vs1 : List Nat) (it : uI) (g : uG) (c : uC) (it1 : uI) (g1 : uG) (c1 : uC) (e : uE) (ρ : Env) (Q : List D → Prop) (x : EX) : Prop := it ρ (fun ds => lcO g c it1 vs1 g1 c1 e (wipeE ρ vs) Q ds []) x
@[simp] def c_yes (_ρ : Env) (Q : Bool → Prop) (_x : EX) : Prop := Q true
/-! ### statements -/
@[simp] def s_nil (K : Ends) (ρ : Env) : Prop := K.nx ρ
@[simp] def s_seq (t u : uS) (K : Ends) (ρ : Env) : Prop := t { K with nx := fun ρ' => u K ρ' } ρ
@[simp] def s_brk (K : Ends) (ρ : Env) : Prop := K.bk ρ
@[simp] def s_cnt (K : Ends) (ρ : Env) : Prop := K.ct ρ
@[simp] def s_set (i : Nat) (t : uE) (K : Ends) (ρ : Env) : Prop := t ρ (fun d => K.nx (ρ.set i (.val d))) K.ex
@[simp] def s_own (i : Nat) (t : uF) (K : Ends) (ρ : Env) : Prop := t ρ (fun ds => K.nx (ρ.set i (.own ds))) K.ex
@[simp] def s_rng (i : Nat) (t : uE) (K : Ends) (ρ : Env) : Prop := t ρ (nOf fun j => rOk j ∧ K.nx (ρ.set i (.rng 0 j))) K.ex
@[simp] def s_unp (g : uG) (t : uE) (K : Ends) (ρ : Env) : Prop := t ρ (fun d => g d ρ K.nx) K.ex
/-- a, b = x, y -/
@[simp] def s_par (i j : Nat) (a b : uE) (K : Ends) (ρ : Env) : Prop := a ρ (fun u => b ρ (fun v => K.nx ((ρ.set i (.val u)).set j (.val v))) K.ex) K.ex
@[simp] def s_if (c : uC) (t u : uS) (K : Ends) (ρ : Env) : Prop := c ρ (fun k => if k = true then t K ρ else u K ρ) K.ex
@[simp] def s_ret (t : uE) (K : Ends) (ρ : Env) : Prop := t ρ K.rt K.ex
@[simp] def s_ex (t : uE) (K : Ends) (ρ : Env) : Prop := t ρ (fun _ => K.nx ρ) K.ex
@[simp] def frzA (i : Nat) (ρ : Env) : Option Sl → Env
  | some (.own ds) => ρ.set i (.val (.list ds))
  | some (.nst rs) => ρ.set i (.val (.list (rs.map .list)))
  | _ => ρ
@[simp] def frz (i : Nat) (ρ : Env) : Env := frzA i ρ ρ[i]?
@[simp] def s_frz (i : Nat) (t : uS) (K : Ends) (ρ : Env) : Prop := t K (frz i ρ)
@[simp] def ownOf (Q : List D → Prop) : Option Sl → Prop
  | some (.own ds) => Q ds
  | _ => False
@[simp] def s_app (i : Nat) (t : uE) (K : Ends) (ρ : Env) : Prop := ownOf (fun ds => t ρ (fun d => ds.length < LN ∧ K.nx (ρ.set i (.own (ds ++ [d])))) K.ex) ρ[i]?
@[simp] def s_insert (i : Nat) (a t : uE) (K : Ends) (ρ : Env) : Prop := ownOf (fun ds => a ρ (nOf fun k => t ρ (fun d => (ds.length < LN ∧ 0 ≤ k ∧ k ≤ 1000000) ∧ K.nx (ρ.set i (.own (ds.take k.toNat ++ [d] ++ ds.drop k.toNat)))) K.ex) K.ex) ρ[i]?
@[simp] def ixOf (n : Nat) (i : Int) (Q : Nat → Prop) : Prop := if 0 ≤ i then i < n ∧ Q i.toNat else -(n : Int) ≤ i ∧ Q (i + n).toNat
/-- x[::-1] -/
@[simp] def o_rev : Op1
  | .list xs, Q => Q (.list xs.reverse)
  | _, _ => False
/-! a list of lists of the def's own -/
@[simp] def nstOf (Q : List (List D) → Prop) : Option Sl → Prop
  | some (.nst rs) => Q rs
  | _ => False
/-- rows[k], read at once -/
@[simp] def b_nix (i : Nat) (k : uE) (ρ : Env) (Q : D → Prop) (x : EX) : Prop := nstOf (fun rs => k ρ (nOf fun z => ixOf rs.length z fun j => Q (.list (rs.getD j []))) x) ρ[i]?
/-- rows[r][k] = v -/
@[simp] def s_sub2 (i : Nat) (r k v : uE) (K : Ends) (ρ : Env) : Prop := v ρ (fun d => nstOf (fun rs => r ρ (nOf fun z => ixOf rs.length z fun a => k ρ (nOf fun y => ixOf (rs.getD a []).length y fun b => K.nx (ρ.set i (.nst (rs.set a ((rs.getD a []).set b d))))) K.ex) K.ex) ρ[i]?) K.ex
/-- rows[r].append(v) -/
@[simp] def s_app2 (i : Nat) (r v : uE) (K : Ends) (ρ : Env) : Prop := nstOf (fun rs => r ρ (nOf fun z => ixOf rs.length z fun a => v ρ (fun d => (rs.getD a []).length < LN ∧ K.nx (ρ.set i (.nst (rs.set a (rs.getD a [] ++ [d]))))) K.ex) K.ex) ρ[i]?
/-- [[..] for g in .. if c] -/
@[simp] def lcN (g : uG) (c : uC) (e : uF) (ρ : Env) (Q : List (List D) → Prop) : List D → List (List D) → Prop
  | [], acc => Q acc
  | d :: ds, acc => g d ρ fun ρ' => c ρ' (fun k => if k = true then e ρ' (fun v => lcN g c e ρ Q ds (acc ++ [v])) noEx else lcN g c e ρ Q ds acc) noEx
@[simp] def s_nst (i : Nat) (vs : List Nat) (it : uI) (g : uG) (c : uC) (e : uF) (K : Ends) (ρ : Env) : Prop := it ρ (fun ds => ds.length ≤ LN ∧ lcN g c e (wipeE ρ vs) (fun rs => K.nx (ρ.set i (.nst rs))) ds []) K.ex
/-- xs[k] = v -/
@[simp] def s_sub (i : Nat) (k v : uE) (K : Ends) (ρ : Env) : Prop := v ρ (fun d => ownOf (fun ds => k ρ (nOf fun z => ixOf ds.length z fun j => K.nx (ρ.set i (.own (ds.set j d)))) K.ex) ρ[i]?) K.ex
@[simp] def popQ (i : Nat) (a : uE) (ρ : Env) (Q : D → Env → Prop) (x : EX) : Prop := ownOf (fun ds => a ρ (nOf fun z => (0 ≤ z ∧ z ≤ 1000000) ∧ oOf (fun d => Q d (ρ.set i (.own (ds.eraseIdx z.toNat)))) ds[z.toNat]?) x) ρ[i]?
/-- xs.pop(a) -/
@[simp] def s_pop (i : Nat) (a : uE) (K : Ends) (ρ : Env) : Prop := popQ i a ρ (fun _ ρ' => K.nx ρ') K.ex
/-- y = xs.pop(a) -/
@[simp] def s_popS (i j : Nat) (a : uE) (K : Ends) (ρ : Env) : Prop := popQ i a ρ (fun d ρ' => K.nx (ρ'.set j (.val d))) K.ex
@[simp] def tup2 (Q : D → D → Prop) : D → Prop
  | .tuple [u, v] => Q u v
  | _ => False
@[simp] def sub1 (i : Nat) (k : uE) (d : D) (ρ : Env) (Q : Env → Prop) (x : EX) : Prop := ownOf (fun ds => k ρ (nOf fun z => ixOf ds.length z fun j => Q (ρ.set i (.own (ds.set j d)))) x) ρ[i]?
/-- xs[a], ys[b] = t -/
@[simp] def s_swp (i j : Nat) (a b t : uE) (K : Ends) (ρ : Env) : Prop := t ρ (tup2 fun u v => sub1 i a u ρ (fun ρ' => sub1 j b v ρ' K.nx K.ex) K.ex) K.ex
@[simp] def sub2 (i : Nat) (r k : uE) (d : D) (ρ : Env) (Q : Env → Prop) (x : EX) : Prop := nstOf (fun rs => r ρ (nOf fun z => ixOf rs.length z fun a => k ρ (nOf fun y => ixOf (rs.getD a []).length y fun b => Q (ρ.set i (.nst (rs.set a ((rs.getD a []).set b d))))) x) x) ρ[i]?
/-- rows[a][b], rows[c][d] = t -/
@[simp] def s_swp2 (i j : Nat) (a b c d t : uE) (K : Ends) (ρ : Env) : Prop := t ρ (tup2 fun u v => sub2 i a b u ρ (fun ρ' => sub2 j c d v ρ' K.nx K.ex) K.ex) K.ex
/-- list(range(n)) -/
@[simp] def f_lrng (t : uE) (ρ : Env) (Q : List D → Prop) (x : EX) : Prop := t ρ (nOf fun j => (0 ≤ j ∧ j ≤ 1000000) ∧ Q (upTo 0 j.toNat)) x
@[simp] def forL (g : uG) (b : uS) (K : Ends) : List D → Env → Prop
  | [], ρ => K.nx ρ
  | d :: ds, ρ => g d ρ fun ρ' => b { K with nx := fun σ => forL g b K ds σ, ct := fun σ => forL g b K ds σ, bk := K.nx } ρ'
@[simp] def s_for (it : uI) (g : uG) (b : uS) (K : Ends) (ρ : Env) : Prop := it ρ (fun ds => forL g b K ds ρ) K.ex
def whN (c : uC) (b : uS) (K : Ends) : Nat → Env → Prop
  | 0, _ => False
  | n + 1, ρ => c ρ (fun k => if k = true then b { K with nx := fun σ => whN c b K n σ, ct := fun σ => whN c b K n σ, bk := K.nx } ρ else K.nx ρ) K.ex
def s_while (c : uC) (b : uS) (K : Ends) (ρ : Env) : Prop := ∃ n, whN c b K n ρ
/-- draw = _law_draw(script) -/
@[simp] def isScr : Option Sl → Prop
  | some .scr => True
  | _ => False
@[simp] def s_draw (i j : Nat) (K : Ends) (ρ : Env) : Prop := isScr ρ[j]? ∧ K.nx (ρ.set i .draw)
@[simp] def s_raise (e : Exn) (K : Ends) (_ρ : Env) : Prop := K.ex e
@[simp] def strQ (Q : Str → Prop) : D → Prop
  | .str s => Q s
  | _ => False
@[simp] def intQ (Q : Int → Prop) : D → Prop
  | .int i => Q i
  | _ => False
/-- raise Refused(t) -/
@[simp] def s_raiseR (t : uE) (K : Ends) (ρ : Env) : Prop := t ρ (strQ fun r => K.ex (.refused r)) K.ex
def emps (n : Nat) : Env := List.replicate n .emp
/-- a suite that returns -/
@[simp] def only (K : Ends) : Ends := { nx := fun _ => False, rt := K.rt, bk := fun _ => False, ct := fun _ => False, ex := noEx }
/-- try: b except Malformed: h -/
@[simp] def exM (n : Nat) (h : uS) (K : Ends) : EX
  | .malformed => h (only K) (emps n)
  | .refused r => K.ex (.refused r)
  | .noText i => K.ex (.noText i)
@[simp] def s_tryM (n : Nat) (b h : uS) (K : Ends) (ρ : Env) : Prop := b { K with ex := exM n h K } ρ

/-- try: b except Malformed: h except Refused as n: return F(n.reason) -/
@[simp] def exMR (n : Nat) (h : uS) (F : Str → (D → Prop) → Prop) (K : Ends) : EX
  | .malformed => h (only K) (emps n)
  | .refused r => F r K.rt
  | .noText i => K.ex (.noText i)
@[simp] def s_tryMR (n : Nat) (b h : uS) (F : Str → (D → Prop) → Prop) (K : Ends) (ρ : Env) : Prop := b { K with ex := exMR n h F K } ρ
/-- "<" + r + ">" -/
@[simp] def F_angle (r : Str) (Q : D → Prop) : Prop := r.length + 2 ≤ LN ∧ Q (.str ((("<" : Str) ++ r) ++ (">" : Str)))
/-! ### defs -/
@[simp] def startL : List Bool → List D → Env
  | true :: s, _ :: ds => .draw :: startL s ds
  | false :: s, d :: ds => .val d :: startL s ds
  | _, _ => []
@[simp] def start (sig : List Bool) (n : Nat) (ds : List D) : Env := startL sig ds ++ List.replicate (n - sig.length) .emp
/-- the contract of a def: its own body -/
def conOf (sig : List Bool) (n : Nat) (b : uS) : Con := fun ds Q x => ds.length = sig.length ∧
  b { nx := fun _ => Q .none, rt := Q, bk := fun _ => False, ct := fun _ => False, ex := x } (start sig n ds)
/-- a number is drawn: any one -/
def cTake : Con := fun ds Q _ => ∃ n : Int, ds = [.none, .int n] ∧ 0 < n ∧ n < 1000000000 ∧ ∀ r : Int, 0 ≤ r → r < n → Q (.int r)
/-- a law holds -/
def lawOk (n : Nat) (t : uS) : Prop := t { nx := fun _ => False, rt := fun d => d = .bool true, bk := fun _ => False, ct := fun _ => False, ex := noEx } (.scr :: List.replicate (n - 1) .emp)
end PL

/-! The link: a pure term that holds is a run of the model. -/
namespace PL
open PySem PySem.Spec PyProof.Rows L2

/-! ### data in the frozen heap -/
mutual
inductive Rp (K : PySem.W.Frag) (G : Hp) : V → PyData → Prop
  | non : Rp K G .non .none
  | bl (b : Bool) : Rp K G (.bl b) (.bool b)
  | int (i : Int) : Rp K G (.int i) (.int i)
  | str (x : Str) : Rp K G (.str x) (.str x)
  | lst {a : Addr} {xs : List V} {ds : List PyData} : G a = some (.lst xs) → RpL K G xs ds → Rp K G (.ref a) (.list ds)
  | tup {a : Addr} {xs : List V} {ds : List PyData} : SqT K G a xs → RpL K G xs ds → Rp K G (.ref a) (.tuple ds)
inductive RpL (K : PySem.W.Frag) (G : Hp) : List V → List PyData → Prop
  | nil : RpL K G [] []
  | cons {v : V} {vs : List V} {d : PyData} {ds : List PyData} : Rp K G v d → RpL K G vs ds → RpL K G (v :: vs) (d :: ds)
end
def Sub (G H : Hp) : Prop := ∀ b o, G b = some o → H b = some o
theorem SqT.sub {K : PySem.W.Frag} {G H : Hp} {a : Addr} {xs : List V} (s : Sub G H) (h : SqT K G a xs) : SqT K H a xs := by
  rcases h with (h | ⟨o, h⟩) | h
  · exact .inl (.inl (s _ _ h))
  · exact .inl (.inr ⟨o, s _ _ h⟩)
  · exact .inr h
section
variable {K : PySem.W.Frag} {G H : Hp}
mutual
theorem Rp.sub (s : Sub G H) : ∀ {d : PyData} {v : V}, Rp K G v d → Rp K H v d
  | _, _, .non => .non
  | _, _, .bl b => .bl b
  | _, _, .int i => .int i
  | _, _, .str x => .str x
  | _, _, .lst e r => .lst (s _ _ e) (RpL.sub s r)
  | _, _, .tup e r => .tup (SqT.sub s e) (RpL.sub s r)
theorem RpL.sub (s : Sub G H) : ∀ {ds : List PyData} {vs : List V}, RpL K G vs ds → RpL K H vs ds
  | _, _, .nil => .nil
  | _, _, .cons r t => .cons (Rp.sub s r) (RpL.sub s t)
end
mutual
theorem Rp.dp : ∀ {d : PyData} {v : V}, Rp K G v d → Dp K G v d
  | _, _, .non => .non
  | _, _, .bl b => .bl b
  | _, _, .int i => .int i
  | _, _, .str x => .str x
  | _, _, .lst e r => .lst (SqL.of e) (RpL.dp r)
  | _, _, .tup e r => .tup e (RpL.dp r)
theorem RpL.dp : ∀ {ds : List PyData} {vs : List V}, RpL K G vs ds → DpAll K G vs ds
  | _, _, .nil => .nil
  | _, _, .cons r t => .cons (Rp.dp r) (RpL.dp t)
end
theorem RpL.len : ∀ {ds : List PyData} {vs : List V}, RpL K G vs ds → vs.length = ds.length
  | _, _, .nil => rfl
  | _, _, .cons _ t => by rw [List.length_cons, List.length_cons, RpL.len t]
theorem RpL.get : ∀ {ds : List PyData} {vs : List V} {i : Nat} {d : PyData}, RpL K G vs ds → ds[i]? = some d → ∃ v, vs[i]? = some v ∧ Rp K G v d
  | _, _, _, _, .nil, e => by simp at e
  | _, _, 0, _, .cons r _, e => by simp at e; subst e; exact ⟨_, rfl, r⟩
  | _, _, i + 1, d, .cons _ t, e => by
    obtain ⟨u, h1, h2⟩ := RpL.get (i := i) (d := d) t (by simpa using e)
    exact ⟨u, by simpa using h1, h2⟩
theorem RpL.getV : ∀ {ds : List PyData} {vs : List V} {i : Nat} {v : V}, RpL K G vs ds → vs[i]? = some v → ∃ d, ds[i]? = some d ∧ Rp K G v d
  | _, _, _, _, .nil, e => by simp at e
  | _, _, 0, _, .cons r _, e => by simp at e; subst e; exact ⟨_, rfl, r⟩
  | _, _, i + 1, d, .cons _ t, e => by
    obtain ⟨u, h1, h2⟩ := RpL.getV (i := i) (v := d) t (by simpa using e)
    exact ⟨u, by simpa using h1, h2⟩
theorem RpL.set {v : V} {d : PyData} (r : Rp K G v d) : ∀ {ds : List PyData} {vs : List V} (i : Nat), RpL K G vs ds → RpL K G (vs.set i v) (ds.set i d)
  | _, _, _, .nil => .nil
  | _, _, 0, .cons _ t => .cons r t
  | _, _, i + 1, .cons q t => .cons q (RpL.set r i t)
theorem RpL.append : ∀ {ds es : List PyData} {vs ws : List V}, RpL K G vs ds → RpL K G ws es → RpL K G (vs ++ ws) (ds ++ es)
  | _, _, _, _, .nil, s => s
  | _, _, _, _, .cons r t, s => .cons r (RpL.append t s)
theorem RpL.take : ∀ {ds : List PyData} {vs : List V} (n : Nat), RpL K G vs ds → RpL K G (vs.take n) (ds.take n)
  | _, _, 0, _ => .nil
  | _, _, _ + 1, .nil => .nil
  | _, _, n + 1, .cons r t => .cons r (RpL.take n t)
theorem RpL.drop : ∀ {ds : List PyData} {vs : List V} (n : Nat), RpL K G vs ds → RpL K G (vs.drop n) (ds.drop n)
  | _, _, 0, r => r
  | _, _, _ + 1, .nil => .nil
  | _, _, n + 1, .cons _ t => RpL.drop n t
theorem RpL.rep {ds : List PyData} {vs : List V} (r : RpL K G vs ds) : ∀ n : Nat, RpL K G (List.replicate n vs).flatten (List.replicate n ds).flatten
  | 0 => .nil
  | n + 1 => by
    rw [List.replicate_succ, List.replicate_succ, List.flatten_cons, List.flatten_cons]
    exact r.append (RpL.rep r n)
theorem RpL.intsV : ∀ {ds : List PyData} {vs : List V} {ns : List Int}, RpL K G vs ds → intsOf ds = some ns → vs = ns.map V.int
  | _, _, _, .nil, e => by cases e; rfl
  | _, _, ns, .cons r t, e => by
    cases r with
    | int i =>
      unfold intsOf at e
      cases q : intsOf _ with
      | none => rw [q] at e; cases e
      | some ms =>
        rw [q] at e
        cases e
        rw [List.map_cons, RpL.intsV t q]
    | non => cases e
    | bl _ => cases e
    | str _ => cases e
    | lst _ _ => cases e
    | tup _ _ => cases e
theorem RpL.boolsV : ∀ {ds : List PyData} {vs : List V} {ns : List Bool}, RpL K G vs ds → boolsOf ds = some ns → vs = ns.map V.bl
  | _, _, _, .nil, e => by cases e; rfl
  | _, _, ns, .cons r t, e => by
    cases r with
    | bl i =>
      unfold boolsOf at e
      cases q : boolsOf _ with
      | none => rw [q] at e; cases e
      | some ms =>
        rw [q] at e
        cases e
        rw [List.map_cons, RpL.boolsV t q]
    | non => cases e
    | int _ => cases e
    | str _ => cases e
    | lst _ _ => cases e
    | tup _ _ => cases e
end

/-! ### the ghost state -/
structure Gh where
  G : Hp
  Dr : Addr → Prop
def DrOk (K : PySem.W.Frag) (G H : Hp) (a : Addr) : Prop := ∃ (l : Addr) (ns : List Int) (p c s : Int), H a = some (.lst [.ref l, .int p, .int c, .int s]) ∧ G l = some (.lst (ns.map V.int)) ∧
  (∀ i, i ∈ ns → 0 ≤ i) ∧ ns.length ≤ 63 ∧ -1 ≤ p ∧ 0 ≤ c ∧ 0 ≤ s ∧ s < 2147483647
structure WFg (K : PySem.W.Frag) (g : Gh) (H : Hp) : Prop where
  sub : Sub g.G H
  dr : ∀ b, g.Dr b → g.G b = none ∧ DrOk K g.G H b
structure Ext (K : PySem.W.Frag) (g : Gh) (H : Hp) (g' : Gh) (H' : Hp) : Prop where
  gg : Sub g.G g'.G
  dd : ∀ b, g.Dr b → g'.Dr b
  keep : ∀ b o, H b = some o → ¬ g.Dr b → H' b = some o
  gn : ∀ b, g'.G b ≠ none → g.G b ≠ none ∨ H b = none
  dn : ∀ b, g'.Dr b → g.Dr b ∨ H b = none
  wf : WFg K g' H'
section
variable {K : PySem.W.Frag} {g g1 g2 : Gh} {H H1 H2 : Hp}
theorem Ext.refl (w : WFg K g H) : Ext K g H g H := ⟨fun _ _ h => h, fun _ h => h, fun _ _ h _ => h, fun _ h => .inl h, fun _ h => .inl h, w⟩
theorem WFg.drS (w : WFg K g H) {b : Addr} (h : g.Dr b) : ∃ o, H b = some o := by
  obtain ⟨_, l, ns, p, c, s, e, _⟩ := w.dr b h
  exact ⟨_, e⟩
theorem Ext.noneOf (w : WFg K g H) (a : Ext K g H g1 H1) {b : Addr} (h : H1 b = none) : H b = none := by
  cases q : H b with
  | none => rfl
  | some o =>
    by_cases hd : g.Dr b
    · obtain ⟨o', e⟩ := a.wf.drS (a.dd b hd)
      rw [h] at e; cases e
    · rw [a.keep b o q hd] at h; cases h
theorem Ext.trans (w : WFg K g H) (a : Ext K g H g1 H1) (b : Ext K g1 H1 g2 H2) : Ext K g H g2 H2 where
  gg := fun c o h => b.gg c o (a.gg c o h)
  dd := fun c h => b.dd c (a.dd c h)
  keep := fun c o h hd => b.keep c o (a.keep c o h hd) fun z => by
    rcases a.dn c z with z | z
    · exact hd z
    · rw [h] at z; cases z
  gn := fun c h => by
    rcases b.gn c h with z | z
    · exact a.gn c z
    · exact .inr (a.noneOf w z)
  dn := fun c h => by
    rcases b.dn c h with z | z
    · exact a.dn c z
    · exact .inr (a.noneOf w z)
  wf := b.wf
/-- a new object that is not frozen -/
theorem Ext.fresh (w : WFg K g H) {p : Addr} {o : HO} (np : H p = none) : Ext K g H g (upd H p o) := by
  have ne : ∀ b u, H b = some u → b ≠ p := fun b u h e => by rw [e, np] at h; cases h
  refine ⟨fun _ _ h => h, fun _ h => h, fun b u h _ => by rw [upd_ne (ne b u h)]; exact h, fun _ h => .inl h, fun _ h => .inl h, fun b u h => by rw [upd_ne (ne b u (w.sub b u h))]; exact w.sub b u h, fun b h => ?_⟩
  obtain ⟨n, l, ns, q, c, s, e, r⟩ := w.dr b h
  exact ⟨n, l, ns, q, c, s, by rw [upd_ne (ne b _ e)]; exact e, r⟩
/-- an object that nobody has frozen, frozen -/
theorem Ext.freeze (w : WFg K g H) {p : Addr} {o : HO} (hp : H p = some o) (np : g.G p = none) (nd : ¬ g.Dr p) {H0 : Hp} {g0 : Gh} (e : Ext K g0 H0 g H) (f0 : H0 p = none) : Ext K g0 H0 ⟨upd g.G p o, g.Dr⟩ H := by
  have ne : ∀ b u, g.G b = some u → b ≠ p := fun b u h e => by rw [e, np] at h; cases h
  refine ⟨fun b u h => ?_, e.dd, e.keep, fun b h => ?_, e.dn, fun b u h => ?_, fun b h => ?_⟩
  · show upd g.G p o b = some u
    rw [upd_ne (ne b u (e.gg b u h))]
    exact e.gg b u h
  · by_cases hb : b = p
    · subst hb; exact .inr f0
    · have h' : upd g.G p o b ≠ none := h
      rw [upd_ne hb] at h'
      exact e.gn b h'
  · by_cases hb : b = p
    · subst hb
      have h' : upd g.G b o b = some u := h
      rw [upd_same] at h'; cases h'
      exact hp
    · have h' : upd g.G p o b = some u := h
      rw [upd_ne hb] at h'
      exact w.sub b u h'
  · obtain ⟨n, l, ns, q, c, s, e1, e2, r⟩ := w.dr b h
    have hb : b ≠ p := fun z => nd (z ▸ h)
    refine ⟨?_, l, ns, q, c, s, e1, ?_, r⟩
    · show upd g.G p o b = none
      rw [upd_ne hb]; exact n
    · show upd g.G p o l = _
      rw [upd_ne (ne l _ e2)]; exact e2
theorem Ext.frozenNew (w : WFg K g H) {p : Addr} {o : HO} (np : H p = none) : Ext K g H ⟨upd g.G p o, g.Dr⟩ (upd H p o) := by
  have n1 : g.G p = none := by
    cases q : g.G p with
    | none => rfl
    | some u => rw [w.sub p u q] at np; cases np
  have n2 : ¬ g.Dr p := fun z => by
    obtain ⟨u, e⟩ := w.drS z
    rw [np] at e; cases e
  exact Ext.freeze (Ext.fresh w np).wf upd_same n1 n2 (Ext.fresh w np) np
theorem WFg.freeN (w : WFg K g H) {p : Addr} (np : H p = none) : g.G p = none ∧ ¬ g.Dr p := by
  refine ⟨?_, fun z => ?_⟩
  · cases q : g.G p with
    | none => rfl
    | some u => rw [w.sub p u q] at np; cases np
  · obtain ⟨u, e⟩ := w.drS z
    rw [np] at e; cases e
end

/-! ### slots -/
/-- lists of the def's own, held in a list -/
inductive NR (K : PySem.W.Frag) (g : Gh) (H : Hp) : List V → List (List D) → Prop
  | nil : NR K g H [] []
  | cons {q : Addr} {ws vs : List V} {ds : List D} {rs : List (List D)} (h1 : g.G q = none) (h2 : ¬ g.Dr q) (h3 : H q = some (.lst vs)) (r : RpL K g.G vs ds) (t : NR K g H ws rs) : NR K g H (.ref q :: ws) (ds :: rs)
inductive SlR (K : PySem.W.Frag) (g : Gh) (H : Hp) : Option V → Sl → Prop
  | emp {o : Option V} : SlR K g H o .emp
  | val {v : V} {d : D} (r : Rp K g.G v d) : SlR K g H (some v) (.val d)
  | own {a : Addr} {vs : List V} {ds : List D} (h1 : g.G a = none) (h2 : ¬ g.Dr a) (h3 : H a = some (.lst vs)) (r : RpL K g.G vs ds) : SlR K g H (some (.ref a)) (.own ds)
  | nst {a : Addr} {vs : List V} {rs : List (List D)} (h1 : g.G a = none) (h2 : ¬ g.Dr a) (h3 : H a = some (.lst vs)) (r : NR K g H vs rs) (nd : vs.Nodup) (na : V.ref a ∉ vs) : SlR K g H (some (.ref a)) (.nst rs)
  | draw {a : Addr} (h : g.Dr a) : SlR K g H (some (.ref a)) .draw
  | rng {a : Addr} {lo hi : Int} (h : g.G a = some (.rng lo hi)) : SlR K g H (some (.ref a)) (.rng lo hi)
  | scr {a : Addr} {ns : List Int} (h : SqL K g.G a (ns.map V.int)) (hl : ns.length ≤ 63) : SlR K g H (some (.ref a)) .scr
theorem SqL.sub {K : PySem.W.Frag} {G H : Hp} {a : Addr} {xs : List V} (s : Sub G H) (h : SqL K G a xs) : SqL K H a xs := by
  rcases h with (h | ⟨o, h⟩) | h
  · exact .inl (.inl (s _ _ h))
  · exact .inl (.inr ⟨o, s _ _ h⟩)
  · exact .inr h
theorem Ext.keepNew {K : PySem.W.Frag} {g g1 : Gh} {H H1 : Hp} (e : Ext K g H g1 H1) {a : Addr} {vs : List V} (h1 : g.G a = none) (h2 : ¬ g.Dr a) (h3 : H a = some (.lst vs)) : g1.G a = none ∧ ¬ g1.Dr a ∧ H1 a = some (.lst vs) := by
  refine ⟨?_, ?_, e.keep a _ h3 h2⟩
  · cases q : g1.G a with
    | none => rfl
    | some u =>
      rcases e.gn a (by rw [q]; simp) with z | z
      · exact absurd h1 z
      · rw [h3] at z; cases z
  · intro z
    rcases e.dn a z with z | z
    · exact h2 z
    · rw [h3] at z; cases z
theorem NR.ext {K : PySem.W.Frag} {g g1 : Gh} {H H1 : Hp} (e : Ext K g H g1 H1) {vs : List V} {rs : List (List D)} (r : NR K g H vs rs) : NR K g1 H1 vs rs := by
  induction r with
  | nil => exact .nil
  | cons h1 h2 h3 r t ih =>
    obtain ⟨k1, k2, k3⟩ := e.keepNew h1 h2 h3
    exact .cons k1 k2 k3 (r.sub e.gg) ih
theorem NR.refs {K : PySem.W.Frag} {g : Gh} {H : Hp} {vs : List V} {rs : List (List D)} (r : NR K g H vs rs) : ∀ v ∈ vs, ∃ q us, v = .ref q ∧ g.G q = none ∧ ¬ g.Dr q ∧ H q = some (.lst us) := by
  induction r with
  | nil => intro v h; cases h
  | cons h1 h2 h3 r t ih =>
    intro v h
    rcases List.mem_cons.mp h with rfl | h
    · exact ⟨_, _, rfl, h1, h2, h3⟩
    · exact ih v h
theorem NR.updO {K : PySem.W.Frag} {g : Gh} {H : Hp} {p : Addr} {ob : HO} {vs : List V} {rs : List (List D)} (r : NR K g H vs rs) (n : V.ref p ∉ vs) : NR K g (upd H p ob) vs rs := by
  induction r with
  | nil => exact .nil
  | @cons q ws us ds rs h1 h2 h3 r t ih =>
    have hq : q ≠ p := fun z => n (by rw [z]; exact List.mem_cons_self)
    exact .cons h1 h2 (by rw [upd_ne hq]; exact h3) r (ih fun z => n (List.mem_cons_of_mem _ z))
theorem NR.len {K : PySem.W.Frag} {g : Gh} {H : Hp} {vs : List V} {rs : List (List D)} (r : NR K g H vs rs) : vs.length = rs.length := by
  induction r with
  | nil => rfl
  | cons h1 h2 h3 r t ih => rw [List.length_cons, List.length_cons, ih]
theorem SlR.ext {K : PySem.W.Frag} {g g1 : Gh} {H H1 : Hp} {o : Option V} {s : Sl} (e : Ext K g H g1 H1) (r : SlR K g H o s) : SlR K g1 H1 o s := by
  cases r with
  | emp => exact .emp
  | val r => exact .val (r.sub e.gg)
  | own h1 h2 h3 r =>
    obtain ⟨k1, k2, k3⟩ := e.keepNew h1 h2 h3
    exact .own k1 k2 k3 (r.sub e.gg)
  | nst h1 h2 h3 r nd na =>
    obtain ⟨k1, k2, k3⟩ := e.keepNew h1 h2 h3
    exact .nst k1 k2 k3 (r.ext e) nd na
  | draw h => exact .draw (e.dd _ h)
  | rng h => exact .rng (e.gg _ _ h)
  | scr h hl => exact .scr (SqL.sub e.gg h) hl
/-- the lists that a slot owns -/
inductive Own (H : Hp) : Option V → Sl → Addr → Prop
  | own {a : Addr} {ds : List D} : Own H (some (.ref a)) (.own ds) a
  | nst {a : Addr} {rs : List (List D)} : Own H (some (.ref a)) (.nst rs) a
  | inn {a q : Addr} {vs : List V} {rs : List (List D)} (h : H a = some (.lst vs)) (m : V.ref q ∈ vs) : Own H (some (.ref a)) (.nst rs) q
theorem Own.some {K : PySem.W.Frag} {g : Gh} {H : Hp} {o : Option V} {s : Sl} {b : Addr} (r : SlR K g H o s) (h : Own H o s b) : ∃ us, H b = some (.lst us) ∧ g.G b = none ∧ ¬ g.Dr b := by
  cases h with
  | own => cases r with
    | own h1 h2 h3 r => exact ⟨_, h3, h1, h2⟩
  | nst => cases r with
    | nst h1 h2 h3 r nd na => exact ⟨_, h3, h1, h2⟩
  | inn h m => cases r with
    | nst h1 h2 h3 r nd na =>
      rw [h3] at h; cases h
      obtain ⟨q, us, e, k1, k2, k3⟩ := r.refs _ m
      cases e; exact ⟨_, k3, k1, k2⟩
theorem Own.back {K : PySem.W.Frag} {g g1 : Gh} {H H1 : Hp} {o : Option V} {s : Sl} {b : Addr} (e : Ext K g H g1 H1) (r : SlR K g H o s) (h : Own H1 o s b) : Own H o s b := by
  cases h with
  | own => exact .own
  | nst => exact .nst
  | inn h m => cases r with
    | nst h1 h2 h3 r nd na =>
      rw [e.keep _ _ h3 h2] at h; cases h
      exact .inn h3 m
theorem Own.backU {K : PySem.W.Frag} {g : Gh} {H : Hp} {o : Option V} {s : Sl} {b p : Addr} {ob : HO} (r : SlR K g H o s) (n : ∀ b, Own H o s b → b ≠ p) (h : Own (upd H p ob) o s b) : Own H o s b := by
  cases h with
  | own => exact .own
  | nst => exact .nst
  | inn h m => cases r with
    | nst h1 h2 h3 r nd na =>
      rw [upd_ne (n _ .nst)] at h
      exact .inn h m
theorem SlR.updO {K : PySem.W.Frag} {g : Gh} {H : Hp} {o : Option V} {s : Sl} {p : Addr} {ob : HO} (r : SlR K g H o s) (n : ∀ b, Own H o s b → b ≠ p) : SlR K g (upd H p ob) o s := by
  cases r with
  | emp => exact .emp
  | val r => exact .val r
  | own h1 h2 h3 r => exact .own h1 h2 (by rw [upd_ne (n _ .own)]; exact h3) r
  | nst h1 h2 h3 r nd na => exact .nst h1 h2 (by rw [upd_ne (n _ .nst)]; exact h3) (r.updO fun z => n _ (.inn h3 z) rfl) nd na
  | draw h => exact .draw h
  | rng h => exact .rng h
  | scr h hl => exact .scr h hl
def isOwn : Sl → Bool
  | .own _ => true
  | .nst _ => true
  | _ => false
theorem Own.is {H : Hp} {o : Option V} {s : Sl} {b : Addr} (h : Own H o s b) : isOwn s = true := by cases h <;> rfl
structure Lk (K : PySem.W.Frag) (g0 : Gh) (H0 : Hp) (g : Gh) (H : Hp) (σ : L2.St) (ρ : Env) : Prop where
  w0 : WFg K g0 H0
  ex : Ext K g0 H0 g H
  len : σ.length = ρ.length
  sl : ∀ (i : Nat) (o : Option V) (s : Sl), σ[i]? = some o → ρ[i]? = some s → SlR K g H o s
  fr : ∀ (i : Nat) (o : Option V) (s : Sl) (b : Addr), σ[i]? = some o → ρ[i]? = some s → Own H o s b → H0 b = none
  di : ∀ (i j : Nat) (o o' : Option V) (s t : Sl) (b : Addr), i ≠ j → σ[i]? = some o → ρ[i]? = some s → Own H o s b → σ[j]? = some o' → ρ[j]? = some t → Own H o' t b → False
section
variable {K : PySem.W.Frag} {g0 g g1 : Gh} {H0 H H1 : Hp} {σ : L2.St} {ρ : Env}
theorem Lk.wf (L : Lk K g0 H0 g H σ ρ) : WFg K g H := L.ex.wf
theorem Lk.ext (L : Lk K g0 H0 g H σ ρ) (e : Ext K g H g1 H1) : Lk K g0 H0 g1 H1 σ ρ :=
  ⟨L.w0, L.ex.trans L.w0 e, L.len, fun i o s h1 h2 => (L.sl i o s h1 h2).ext e, fun i o s b h1 h2 h3 => L.fr i o s b h1 h2 (h3.back e (L.sl i o s h1 h2)),
    fun i j o o' s t b hij h1 h2 h3 h4 h5 h6 => L.di i j o o' s t b hij h1 h2 (h3.back e (L.sl i o s h1 h2)) h4 h5 (h6.back e (L.sl j o' t h4 h5))⟩
theorem Lk.at (L : Lk K g0 H0 g H σ ρ) {i : Nat} {s : Sl} (h : ρ[i]? = some s) : ∃ o, σ[i]? = some o ∧ SlR K g H o s := by
  obtain ⟨hi, e⟩ := List.getElem?_eq_some_iff.mp h
  have hi' : i < σ.length := by rw [L.len]; exact hi
  exact ⟨σ[i], List.getElem?_eq_getElem hi', L.sl i _ s (List.getElem?_eq_getElem hi') h⟩
theorem Lk.val (L : Lk K g0 H0 g H σ ρ) {i : Nat} {d : D} (h : ρ[i]? = some (.val d)) : ∃ v, σ[i]? = some (some v) ∧ Rp K g.G v d := by
  obtain ⟨o, e, r⟩ := L.at h
  cases r with
  | val r => exact ⟨_, e, r⟩
/-- a slot is stored -/
theorem Lk.set (L : Lk K g0 H0 g H σ ρ) (i : Nat) {v : V} {s : Sl} (r : SlR K g H (some v) s)
    (ho : ∀ b, Own H (some v) s b → H0 b = none ∧ ∀ (j : Nat) (o : Option V) (t : Sl), j ≠ i → σ[j]? = some o → ρ[j]? = some t → Own H o t b → False) : Lk K g0 H0 g H (σ.set i (some v)) (ρ.set i s) := by
  have key : ∀ (j : Nat) (o : Option V) (t : Sl), (σ.set i (some v))[j]? = some o → (ρ.set i s)[j]? = some t → (j = i ∧ o = some v ∧ t = s) ∨ (j ≠ i ∧ σ[j]? = some o ∧ ρ[j]? = some t) := fun j o t h1 h2 => by
    by_cases hj : j = i
    · subst hj
      obtain ⟨hi, _⟩ := List.getElem?_eq_some_iff.mp h1
      have hi1 : j < σ.length := by simpa using hi
      have hi2 : j < ρ.length := by rw [← L.len]; exact hi1
      rw [List.getElem?_set_self hi1] at h1
      rw [List.getElem?_set_self hi2] at h2
      cases h1; cases h2
      exact .inl ⟨rfl, rfl, rfl⟩
    · rw [List.getElem?_set_ne (Ne.symm hj)] at h1 h2
      exact .inr ⟨hj, h1, h2⟩
  refine ⟨L.w0, L.ex, by simp [L.len], fun j o t h1 h2 => ?_, fun j o t b h1 h2 h3 => ?_, fun j k o o' t u b hjk h1 h2 h3 h4 h5 h6 => ?_⟩
  · rcases key j o t h1 h2 with ⟨_, rfl, rfl⟩ | ⟨_, q1, q2⟩
    · exact r
    · exact L.sl j o t q1 q2
  · rcases key j _ t h1 h2 with ⟨_, rfl, rfl⟩ | ⟨_, q1, q2⟩
    · exact (ho b h3).1
    · exact L.fr j o t b q1 q2 h3
  · rcases key j _ t h1 h2 with ⟨rfl, rfl, rfl⟩ | ⟨n1, q1, q2⟩
    · rcases key k _ u h4 h5 with ⟨rfl, _, _⟩ | ⟨n2, q3, q4⟩
      · exact hjk rfl
      · exact (ho b h3).2 k _ u n2 q3 q4 h6
    · rcases key k _ u h4 h5 with ⟨rfl, rfl, rfl⟩ | ⟨n2, q3, q4⟩
      · exact (ho b h6).2 j _ t n1 q1 q2 h3
      · exact L.di j k o o' t u b hjk q1 q2 h3 q3 q4 h6
theorem Lk.setVal (L : Lk K g0 H0 g H σ ρ) (i : Nat) {v : V} {d : D} (r : Rp K g.G v d) : Lk K g0 H0 g H (σ.set i (some v)) (ρ.set i (.val d)) :=
  L.set i (.val r) fun _ z => nomatch z
/-- a slot's reading becomes one that owns less -/
theorem Lk.less (L : Lk K g0 H0 g H σ ρ) {i : Nat} {s s' : Sl} (hρ : ρ[i]? = some s) (r : ∀ o, σ[i]? = some o → SlR K g H o s') (hown : ∀ o b, σ[i]? = some o → Own H o s' b → Own H o s b) : Lk K g0 H0 g H σ (ρ.set i s') := by
  obtain ⟨hi, _⟩ := List.getElem?_eq_some_iff.mp hρ
  have key : ∀ (j : Nat) (t : Sl), (ρ.set i s')[j]? = some t → (j = i ∧ t = s') ∨ (j ≠ i ∧ ρ[j]? = some t) := fun j t h => by
    by_cases hj : j = i
    · subst hj
      rw [List.getElem?_set_self hi] at h
      cases h; exact .inl ⟨rfl, rfl⟩
    · rw [List.getElem?_set_ne (Ne.symm hj)] at h
      exact .inr ⟨hj, h⟩
  refine ⟨L.w0, L.ex, by simp [L.len], fun j o' t h1 h2 => ?_, fun j o' t b h1 h2 h3 => ?_, fun j k o1 o2 t u b hjk h1 h2 h3 h4 h5 h6 => ?_⟩
  · rcases key j t h2 with ⟨rfl, rfl⟩ | ⟨hj, h2⟩
    · exact r _ h1
    · exact L.sl j o' t h1 h2
  · rcases key j t h2 with ⟨rfl, rfl⟩ | ⟨hj, h2⟩
    · exact L.fr j o' s b h1 hρ (hown _ b h1 h3)
    · exact L.fr j o' t b h1 h2 h3
  · rcases key j t h2 with ⟨rfl, rfl⟩ | ⟨hj, h2'⟩
    · rcases key k u h5 with ⟨rfl, rfl⟩ | ⟨hk, h5⟩
      · exact hjk rfl
      · exact L.di j k o1 o2 s u b hjk h1 hρ (hown _ b h1 h3) h4 h5 h6
    · clear h2
      have h2 := h2'
      rcases key k u h5 with ⟨ek, eu⟩ | ⟨hk, h5⟩
      · subst eu
        rw [ek] at h4
        exact L.di j i o1 o2 t s b hj h1 h2 h3 h4 hρ (hown _ b h4 h6)
      · exact L.di j k o1 o2 t u b hjk h1 h2 h3 h4 h5 h6
end
end PL

namespace PL
open PySem PySem.Spec PyProof.Rows L2

/-! ### the readings of pure terms -/
structure Cls where
  m : Option Value
  r : Option Value
  n : Option Value
def XR (κ : Cls) (e : Exn) (c : Value) (d : Option Addr) (H : Hp) : Prop := match e with
  | .malformed => κ.m = some c ∧ d = none
  | .refused r => κ.r = some c ∧ ∃ a, d = some a ∧ H a = some (.xd [("reason", .str r)])
  | .noText i => κ.n = some c ∧ ∃ a, d = some a ∧ H a = some (.xd [("at", .int i)])
def LX (K : PySem.W.Frag) (κ : Cls) (g0 : Gh) (H0 : Hp) (x : EX) (W : XK) : Prop := ∀ e g' H' c d, Ext K g0 H0 g' H' → XR κ e c d H' → x e → W c d H'
theorem lx_none {K : PySem.W.Frag} {κ : Cls} {g0 : Gh} {H0 : Hp} {W : XK} : LX K κ g0 H0 noEx W := fun _ _ _ _ _ _ _ z => z.elim
/-- a value that is read at once: frozen data, or a list of the def's own -/
def Bp (K : PySem.W.Frag) (g : Gh) (H : Hp) (v : V) (d : D) : Prop := Rp K g.G v d ∨ ∃ a vs ds, v = .ref a ∧ d = .list ds ∧ g.G a = none ∧ ¬ g.Dr a ∧ H a = some (.lst vs) ∧ RpL K g.G vs ds
def tX (R : PySem.W.Frag → Gh → Hp → V → D → Prop) (K : PySem.W.Frag) (κ : Cls) (W : XK) (T : uE) : L2.TE := fun σ H Q => ∃ g0 H0 g ρ P x, Lk K g0 H0 g H σ ρ ∧ T ρ P x ∧
  (∀ g' H' v d, Ext K g H g' H' → R K g' H' v d → P d → Q v H') ∧ LX K κ g0 H0 x W
def Rs (K : PySem.W.Frag) (g : Gh) (_ : Hp) (v : V) (d : D) : Prop := Rp K g.G v d
abbrev tE := tX Rs
abbrev tB := tX Bp
/-- a fresh list -/
def tF (K : PySem.W.Frag) (κ : Cls) (W : XK) (T : uF) : L2.TE := fun σ H Q => ∃ g0 H0 g ρ P x, Lk K g0 H0 g H σ ρ ∧ T ρ P x ∧
  (∀ g' H' p vs ds, Ext K g H g' H' → H p = none → g'.G p = none → ¬ g'.Dr p → H' p = some (.lst vs) → RpL K g'.G vs ds → P ds → Q (.ref p) H') ∧ LX K κ g0 H0 x W
def tC (K : PySem.W.Frag) (κ : Cls) (W : XK) (T : uC) : L2.TT := fun σ H Q => ∃ g0 H0 g ρ P x, Lk K g0 H0 g H σ ρ ∧ T ρ P x ∧
  (∀ g' H' b, Ext K g H g' H' → P b → Q b H') ∧ LX K κ g0 H0 x W
inductive ArgR (K : PySem.W.Frag) (g : Gh) : List Bool → List V → List D → Prop
  | nil : ArgR K g [] [] []
  | val {v : V} {d : D} {s : List Bool} {vs : List V} {ds : List D} (r : Rp K g.G v d) (t : ArgR K g s vs ds) : ArgR K g (false :: s) (v :: vs) (d :: ds)
  | draw {a : Addr} {s : List Bool} {vs : List V} {ds : List D} (h : g.Dr a) (t : ArgR K g s vs ds) : ArgR K g (true :: s) (.ref a :: vs) (.none :: ds)
def tA (K : PySem.W.Frag) (κ : Cls) (W : XK) (sig : List Bool) (T : uF) : L2.TA := fun σ H Q => ∃ g0 H0 g ρ P x, Lk K g0 H0 g H σ ρ ∧ T ρ P x ∧
  (∀ g' H' vs ds, Ext K g H g' H' → ArgR K g' sig vs ds → P ds → Q vs H') ∧ LX K κ g0 H0 x W
structure LS (K : PySem.W.Frag) (κ : Cls) (W : XK) (g0 : Gh) (H0 : Hp) (F : Hp) (E : L2.Ends) (P : Ends) : Prop where
  nx : ∀ g' H' σ' ρ', Lk K g0 H0 g' H' σ' ρ' → Sub F g'.G → P.nx ρ' → E.nx σ' H'
  rt : ∀ g' H' v d, Ext K g0 H0 g' H' → Rp K g'.G v d → P.rt d → E.rt v H'
  bk : ∀ g' H' σ' ρ', Lk K g0 H0 g' H' σ' ρ' → Sub F g'.G → P.bk ρ' → E.bk σ' H'
  ct : ∀ g' H' σ' ρ', Lk K g0 H0 g' H' σ' ρ' → Sub F g'.G → P.ct ρ' → E.ct σ' H'
  ex : LX K κ g0 H0 P.ex W
def tS (K : PySem.W.Frag) (κ : Cls) (W : XK) (T : uS) : L2.TS := fun E σ H => ∃ g0 H0 g ρ P, Lk K g0 H0 g H σ ρ ∧ T P ρ ∧ LS K κ W g0 H0 g.G E P

section
variable {K : PySem.W.Frag} {g g1 : Gh} {H H1 : Hp} {v : V} {d : D}
theorem Bp.of (r : Rp K g.G v d) : Bp K g H v d := .inl r
theorem Bp.ext (w : WFg K g H) (e : Ext K g H g1 H1) (b : Bp K g H v d) : Bp K g1 H1 v d := by
  rcases b with r | ⟨a, vs, ds, rfl, rfl, h1, h2, h3, r⟩
  · exact .inl (r.sub e.gg)
  · have q := SlR.ext e (SlR.own h1 h2 h3 r)
    cases q with
    | own k1 k2 k3 r' => rw [e.keep a _ h3 h2] at k3; cases k3; exact .inr ⟨a, _, ds, rfl, rfl, k1, k2, e.keep a _ h3 h2, r'⟩
theorem Bp.list {ds : List D} (w : WFg K g H) (b : Bp K g H v (.list ds)) : ∃ a vs, v = .ref a ∧ H a = some (.lst vs) ∧ RpL K g.G vs ds := by
  rcases b with r | ⟨a, vs, ds', rfl, e, h1, h2, h3, r⟩
  · cases r with
    | lst e r => exact ⟨_, _, rfl, w.sub _ _ e, r⟩
  · cases e; exact ⟨_, _, rfl, h3, r⟩
theorem Bp.tup {ds : List D} (b : Bp K g H v (.tuple ds)) : ∃ a vs, v = .ref a ∧ SqT K g.G a vs ∧ RpL K g.G vs ds := by
  rcases b with r | ⟨a, vs, ds', rfl, e, _⟩
  · cases r with
    | tup e r => exact ⟨_, _, rfl, e, r⟩
  · cases e
theorem Bp.int {i : Int} (b : Bp K g H v (.int i)) : v = .int i := by
  rcases b with r | ⟨a, vs, ds', rfl, e, _⟩
  · cases r; rfl
  · cases e
theorem Bp.bl {i : Bool} (b : Bp K g H v (.bool i)) : v = .bl i := by
  rcases b with r | ⟨a, vs, ds', rfl, e, _⟩
  · cases r; rfl
  · cases e
theorem Bp.str {i : Str} (b : Bp K g H v (.str i)) : v = .str i := by
  rcases b with r | ⟨a, vs, ds', rfl, e, _⟩
  · cases r; rfl
  · cases e
theorem Bp.non (b : Bp K g H v .none) : v = .non := by
  rcases b with r | ⟨a, vs, ds', rfl, e, _⟩
  · cases r; rfl
  · cases e
theorem Bp.dp (w : WFg K g H) (b : Bp K g H v d) : Dp K H v d := by
  rcases b with r | ⟨a, vs, ds, rfl, rfl, _, _, h3, r⟩
  · exact (r.sub w.sub).dp
  · exact .lst (SqL.of h3) (r.sub w.sub).dp
theorem Bp.nodict {kvs : List (PyData × PyData)} (b : Bp K g H v (.dict kvs)) : False := by
  rcases b with r | ⟨a, vs, ds', rfl, e, _⟩
  · cases r
  · cases e
end

abbrev JE (X : Cx) (κ : Cls) (W : XK) (e : Expr) (T : uE) : Prop := L2.PE X e (tE X.K κ W T)
abbrev JB (X : Cx) (κ : Cls) (W : XK) (e : Expr) (T : uE) : Prop := L2.PE X e (tB X.K κ W T)
abbrev JF (X : Cx) (κ : Cls) (W : XK) (e : Expr) (T : uF) : Prop := L2.PE X e (tF X.K κ W T)
abbrev JC (X : Cx) (κ : Cls) (W : XK) (e : Expr) (T : uC) : Prop := L2.PT X e (tC X.K κ W T)
abbrev JA (X : Cx) (κ : Cls) (W : XK) (es : List Expr) (sig : List Bool) (T : uF) : Prop := L2.PA X es (tA X.K κ W sig T)
abbrev JS (X : Cx) (κ : Cls) (W : XK) (s : Stmt) (T : uS) : Prop := L2.PS X s (tS X.K κ W T)
abbrev JSs (X : Cx) (κ : Cls) (W : XK) (s : List Stmt) (T : uS) : Prop := L2.PSs X s (tS X.K κ W T)

section
variable {X : Cx} {e : Expr}
theorem PE.weak {t t' : L2.TE} (h : L2.PE X e t) (k : ∀ σ H Q, t' σ H Q → t σ H Q) : L2.PE X e t' := ⟨fun pins s σ H Q I q => h.run pins s σ H Q I (k _ _ _ q)⟩
theorem PT.weak {t t' : L2.TT} (h : L2.PT X e t) (k : ∀ σ H Q, t' σ H Q → t σ H Q) : L2.PT X e t' := ⟨fun pins s σ H Q I q => h.run pins s σ H Q I (k _ _ _ q)⟩
theorem PA.weak {es : List Expr} {t t' : L2.TA} (h : L2.PA X es t) (k : ∀ σ H Q, t' σ H Q → t σ H Q) : L2.PA X es t' := ⟨fun pos pins s σ H Q I q => h.run pos pins s σ H Q I (k _ _ _ q)⟩
theorem PS.weak {st : Stmt} {t t' : L2.TS} (h : L2.PS X st t) (k : ∀ D σ H, t' D σ H → t D σ H) : L2.PS X st t' := ⟨fun pins s σ H D I q => h.run pins s σ H D I (k _ _ _ q)⟩
theorem PSs.weak {st : List Stmt} {t t' : L2.TS} (h : L2.PSs X st t) (k : ∀ D σ H, t' D σ H → t D σ H) : L2.PSs X st t' := ⟨fun pins s σ H D I q => h.run pins s σ H D I (k _ _ _ q)⟩
end

/-! ### names, constants -/
section
variable {X : Cx} {κ : Cls} {W : XK} {pos : Pos}
end
end PL

namespace PL
open PySem PySem.Spec PyProof.Rows L2

section
variable {X : Cx} {κ : Cls} {W : XK} {pos : Pos} {a b c e : Expr} {ta tb tc : uE}

/-! ### names, constants -/
theorem j_const {v : V} {d : D} (h : L2.PE X e (L2.tC v)) (r : ∀ G, Rp X.K G v d) : JE X κ W e (e_c d) := PE.weak h fun σ H Q ⟨g0, H0, g, ρ, P, x, L, q, hQ, _⟩ => hQ g H v d (Ext.refl L.wf) (r _) q
theorem j_int {i : Int} {j} : JE X κ W (.Constant (.int i) j pos) (e_c (.int i)) := j_const pe_int fun _ => .int i
theorem j_bl {i : Bool} {j} : JE X κ W (.Constant (.bool i) j pos) (e_c (.bool i)) := j_const pe_bl fun _ => .bl i
theorem j_non {j} : JE X κ W (.Constant .none j pos) (e_c .none) := j_const pe_non fun _ => .non
theorem j_str {i : Str} {j} : JE X κ W (.Constant (.str i) j pos) (e_c (.str i)) := j_const pe_str fun _ => .str i
/-- a constant of the module -/
structure GlobC (K : PySem.W.Frag) (mg : Str → Option Value) (x : Str) (d : D) : Prop where
  ex : ∃ v u, mg x = some u ∧ RelV v u ∧ ∀ G, Rp K G v d
theorem j_glob {x : Str} {d : D} (c : GlobC X.K X.mg x d) (hg : Gl X x) (hd : (x == ("__debug__" : Str)) = false := by decide) : JE X κ W (.Name x pos) (e_c d) := by
  obtain ⟨v, u, hm, r, q⟩ := c.ex
  exact j_const (pe_glob hg hm r hd) q
theorem j_v (i : Nat) {x : Str} (hN : X.N[i]? = some x := by rfl) (hv : Vis X.env.scope x := by first | exact Or.inl rfl | exact Or.inr (Or.inl rfl) | exact Or.inr (Or.inr rfl)) (hd : (x == ("__debug__" : Str)) = false := by decide)
    (hcd : (x == ("__classdict__" : Str)) = false := by decide) : JE X κ W (.Name x pos) (e_v i) := by
  refine PE.weak (pe_var hN hv hd hcd) fun σ H Q ⟨g0, H0, g, ρ, P, x, L, q, hQ, _⟩ => ?_
  unfold e_v vOf at q
  split at q
  · rename_i d e
    obtain ⟨v, h1, r⟩ := L.val e
    exact ⟨v, h1, hQ g H v d (Ext.refl L.wf) r q⟩
  · exact q.elim
theorem jb_v (i : Nat) {x : Str} (hN : X.N[i]? = some x := by rfl) (hv : Vis X.env.scope x := by first | exact Or.inl rfl | exact Or.inr (Or.inl rfl) | exact Or.inr (Or.inr rfl)) (hd : (x == ("__debug__" : Str)) = false := by decide)
    (hcd : (x == ("__classdict__" : Str)) = false := by decide) : JB X κ W (.Name x pos) (b_v i) := by
  refine PE.weak (pe_var hN hv hd hcd) fun σ H Q ⟨g0, H0, g, ρ, P, x, L, q, hQ, _⟩ => ?_
  unfold b_v bOf at q
  split at q
  · rename_i d e
    obtain ⟨v, h1, r⟩ := L.val e
    exact ⟨v, h1, hQ g H v d (Ext.refl L.wf) (.inl r) q⟩
  · rename_i ds e
    obtain ⟨o, h1, r⟩ := L.at e
    cases r with
    | own k1 k2 k3 r => exact ⟨_, h1, hQ g H _ _ (Ext.refl L.wf) (.inr ⟨_, _, _, rfl, rfl, k1, k2, k3, r⟩) q⟩
  · exact q.elim
theorem jb (h : JE X κ W e ta) : JB X κ W e ta := PE.weak h fun σ H Q ⟨g0, H0, g, ρ, P, x, L, q, hQ, hx⟩ =>
  ⟨g0, H0, g, ρ, P, x, L, q, fun g' H' v d e r p => hQ g' H' v d e (.inl r) p, hx⟩
/-- a fresh list is frozen -/
theorem j_f {t : uF} (h : JF X κ W e t) : JE X κ W e (e_f t) := PE.weak h fun σ H Q ⟨g0, H0, g, ρ, P, x, L, q, hQ, hx⟩ => by
  refine ⟨g0, H0, g, ρ, fun ds => P (.list ds), x, L, q, fun g' H' p vs ds e n0 n1 n2 hp r pp => ?_, hx⟩
  have e2 := Ext.freeze e.wf hp n1 n2 e n0
  refine hQ _ H' _ _ e2 (.lst (G := upd g'.G p (.lst vs)) upd_same (r.sub fun b o z => ?_)) pp
  rw [upd_ne (fun y => by rw [y, n1] at z; cases z)]
  exact z

/-! ### operators -/
def BOp (X : Cx) (F : Value → Value → Sem Value) (f : Op2) : Prop := ∃ r : R2, OpR X F r ∧ ∀ g H v1 v2 d1 d2 (P : D → Prop) (Q : VK), WFg X.K g H → Bp X.K g H v1 d1 → Bp X.K g H v2 d2 → f d1 d2 P →
  (∀ g' H' v d, Ext X.K g H g' H' → Rp X.K g'.G v d → P d → Q v H') → r v1 v2 H Q
theorem tB2 {r : R2} {f : Op2} (hd : ∀ g H v1 v2 d1 d2 (P : D → Prop) (Q : VK), WFg X.K g H → Bp X.K g H v1 d1 → Bp X.K g H v2 d2 → f d1 d2 P → (∀ g' H' v d, Ext X.K g H g' H' → Rp X.K g'.G v d → P d → Q v H') → r v1 v2 H Q)
    (σ : L2.St) (H : Hp) (Q : VK) (h : tE X.K κ W (e_op f ta tb) σ H Q) : L2.tOp r (tB X.K κ W ta) (tB X.K κ W tb) σ H Q := by
  obtain ⟨g0, H0, g, ρ, P, x, L, q, hQ, hx⟩ := h
  refine ⟨g0, H0, g, ρ, _, x, L, q, fun g1 H1 v1 d1 e1 r1 q1 => ?_, hx⟩
  refine ⟨g0, H0, g1, ρ, _, x, L.ext e1, q1, fun g2 H2 v2 d2 e2 r2 q2 => ?_, hx⟩
  exact hd g2 H2 v1 v2 d1 d2 P Q e2.wf (r1.ext e1.wf e2) r2 q2 fun g' H' v d e r p => hQ g' H' v d ((e1.trans L.wf e2).trans L.wf e) r p
theorem j_op {op : Operator} {f : Op2} (ho : BOp X (binaryOp op) f) (ha : JB X κ W a ta) (hb : JB X κ W b tb) : JE X κ W (.BinOp a op b pos) (e_op f ta tb) := by
  obtain ⟨r, h1, h2⟩ := ho
  exact PE.weak (pe_op h1 ha hb) (tB2 h2)
theorem j_cmp {op : CmpOp} {f : Op2} (ho : BOp X (compareOp op) f) (ha : JB X κ W a ta) (hb : JB X κ W b tb) (hm : behindInMarks op b = false) : JE X κ W (.Compare a [op] [b] pos) (e_op f ta tb) := by
  obtain ⟨r, h1, h2⟩ := ho
  exact PE.weak (pe_cmpR h1 ha hb hm) (tB2 h2)
theorem tTest_of {t : L2.TE} {u : uE} (h : ∀ σ H Q, tE X.K κ W u σ H Q → t σ H Q) (σ : L2.St) (H : Hp) (Q : Bool → Hp → Prop) (q : tC X.K κ W (c_e u) σ H Q) : L2.tTest t σ H Q := by
  obtain ⟨g0, H0, g, ρ, P, x, L, q, hQ, hx⟩ := q
  refine h σ H _ ⟨g0, H0, g, ρ, _, x, L, q, fun g' H' v d e r p => ?_, hx⟩
  unfold kOf at p
  split at p
  · rename_i k
    cases r
    exact ⟨k, rfl, hQ g' H' k e p⟩
  · exact p.elim
theorem jc_cmp {op : CmpOp} {f : Op2} (ho : BOp X (compareOp op) f) (ha : JB X κ W a ta) (hb : JB X κ W b tb) (hm : behindInMarks op b = false) : JC X κ W (.Compare a [op] [b] pos) (c_e (e_op f ta tb)) := by
  obtain ⟨r, h1, h2⟩ := ho
  exact PT.weak (pt_cmpR h1 ha hb hm) (tTest_of (tB2 h2))
theorem tChain_of {r r' : R2} {f g : Op2} (h1 : ∀ g H v1 v2 d1 d2 (P : D → Prop) (Q : VK), WFg X.K g H → Bp X.K g H v1 d1 → Bp X.K g H v2 d2 → f d1 d2 P → (∀ g' H' v d, Ext X.K g H g' H' → Rp X.K g'.G v d → P d → Q v H') → r v1 v2 H Q)
    (h2 : ∀ g' H v1 v2 d1 d2 (P : D → Prop) (Q : VK), WFg X.K g' H → Bp X.K g' H v1 d1 → Bp X.K g' H v2 d2 → g d1 d2 P → (∀ g'' H' v d, Ext X.K g' H g'' H' → Rp X.K g''.G v d → P d → Q v H') → r' v1 v2 H Q)
    (σ : L2.St) (H : Hp) (Q : VK) (q : tE X.K κ W (e_ch f g ta tb tc) σ H Q) : L2.tChain r r' (tB X.K κ W ta) (tB X.K κ W tb) (tB X.K κ W tc) σ H Q := by
  obtain ⟨g0, H0, gg, ρ, P, x, L, q, hQ, hx⟩ := q
  refine ⟨g0, H0, gg, ρ, _, x, L, q, fun g1 H1 v1 d1 e1 r1 q1 => ?_, hx⟩
  refine ⟨g0, H0, g1, ρ, _, x, L.ext e1, q1, fun g2 H2 v2 d2 e2 r2 q2 => ?_, hx⟩
  have L2' := (L.ext e1).ext e2
  refine h1 g2 H2 v1 v2 d1 d2 _ _ e2.wf (r1.ext e1.wf e2) r2 q2 fun g3 H3 v3 d3 e3 r3 q3 => ?_
  unfold kOf at q3
  split at q3
  · rename_i k
    cases r3
    refine ⟨k, rfl, ?_⟩
    cases k with
    | false =>
      simp only [Bool.false_eq_true, if_false] at q3 ⊢
      exact hQ g3 H3 _ _ ((e1.trans L.wf e2).trans L.wf e3) (.bl false) q3
    | true =>
      simp only [if_true] at q3 ⊢
      refine ⟨g0, H0, g3, ρ, _, x, L2'.ext e3, q3, fun g4 H4 v4 d4 e4 r4 q4 => ?_, hx⟩
      exact h2 g4 H4 v2 v4 d2 d4 P Q e4.wf ((r2.ext e2.wf e3).ext e3.wf e4) r4 q4 fun g' H' v d e r p => hQ g' H' v d ((((e1.trans L.wf e2).trans L.wf e3).trans L.wf e4).trans L.wf e) r p
  · exact q3.elim
theorem j_ch {op op' : CmpOp} {f g : Op2} (ho : BOp X (compareOp op) f) (ho' : BOp X (compareOp op') g) (ha : JB X κ W a ta) (hb : JB X κ W b tb) (hc : JB X κ W c tc) (hm : lastMarks [op, op'] [b, c] = false := by rfl) :
    JE X κ W (.Compare a [op, op'] [b, c] pos) (e_ch f g ta tb tc) := by
  obtain ⟨r, h1, h2⟩ := ho
  obtain ⟨r', h1', h2'⟩ := ho'
  exact PE.weak (pe_chain h1 h1' ha hb hc hm) (tChain_of h2 h2')
theorem jc_ch {op op' : CmpOp} {f g : Op2} (ho : BOp X (compareOp op) f) (ho' : BOp X (compareOp op') g) (ha : JB X κ W a ta) (hb : JB X κ W b tb) (hc : JB X κ W c tc) (hm : lastMarks [op, op'] [b, c] = false := by rfl) :
    JC X κ W (.Compare a [op, op'] [b, c] pos) (c_e (e_ch f g ta tb tc)) := by
  obtain ⟨r, h1, h2⟩ := ho
  obtain ⟨r', h1', h2'⟩ := ho'
  exact PT.weak (pt_chain h1 h1' ha hb hc hm) (tTest_of (tChain_of h2 h2'))
theorem jc_e (h : JE X κ W e ta) (he : ∀ whole, isTrue e X.env whole = (do let v ← whole; standAt e.pos; holding [v] (truthy v)) := by intro _; rfl) : JC X κ W e (c_e ta) :=
  PT.weak (pt_val h he) fun σ H Q q => tTest_of (fun _ _ _ z => z) σ H Q q

/-! ### and, or, not -/
variable {ca cb : uC} {rest : List Expr}
abbrev JW (X : Cx) (κ : Cls) (W : XK) (e : Expr) (T : uC) : Prop := L2.PW X e (tC X.K κ W T)
theorem PW.weak {t t' : L2.TT} (h : L2.PW X e t) (k : ∀ σ H Q, t' σ H Q → t σ H Q) : L2.PW X e t' := ⟨fun wh pins s σ H Q I q => h.run wh pins s σ H Q I (k _ _ _ q)⟩
theorem jw (h : JW X κ W e ca) : JC X κ W e ca := L2.PW.pt h
theorem jw_and1 (ha : JC X κ W a ca) : JW X κ W (.BoolOp .And [a] pos) ca := pw_and1 ha
theorem jw_or1 (ha : JC X κ W a ca) : JW X κ W (.BoolOp .Or [a] pos) ca := pw_or1 ha
theorem jw_and (ha : JC X κ W a ca) (hb : JW X κ W (.BoolOp .And (b :: rest) pos) cb) : JW X κ W (.BoolOp .And (a :: b :: rest) pos) (c_and ca cb) := PW.weak (pw_and ha hb) fun σ H Q ⟨g0, H0, g, ρ, P, x, L, q, hQ, hx⟩ => by
  refine ⟨g0, H0, g, ρ, _, x, L, q, fun g1 H1 k e1 q1 => ?_, hx⟩
  cases k with
  | true =>
    simp only [if_true] at q1 ⊢
    exact ⟨g0, H0, g1, ρ, P, x, L.ext e1, q1, fun g' H' b e p => hQ g' H' b (e1.trans L.wf e) p, hx⟩
  | false =>
    simp only [Bool.false_eq_true, if_false] at q1 ⊢
    exact hQ g1 H1 false e1 q1
theorem jw_or (ha : JC X κ W a ca) (hb : JW X κ W (.BoolOp .Or (b :: rest) pos) cb) : JW X κ W (.BoolOp .Or (a :: b :: rest) pos) (c_or ca cb) := PW.weak (pw_or ha hb) fun σ H Q ⟨g0, H0, g, ρ, P, x, L, q, hQ, hx⟩ => by
  refine ⟨g0, H0, g, ρ, _, x, L, q, fun g1 H1 k e1 q1 => ?_, hx⟩
  cases k with
  | true =>
    simp only [if_true] at q1 ⊢
    exact hQ g1 H1 true e1 q1
  | false =>
    simp only [Bool.false_eq_true, if_false] at q1 ⊢
    exact ⟨g0, H0, g1, ρ, P, x, L.ext e1, q1, fun g' H' b e p => hQ g' H' b (e1.trans L.wf e) p, hx⟩
theorem jc_not (ha : JC X κ W a ca) : JC X κ W (.UnaryOp .Not a pos) (c_not ca) := PT.weak (pt_not ha) fun σ H Q ⟨g0, H0, g, ρ, P, x, L, q, hQ, hx⟩ =>
  ⟨g0, H0, g, ρ, _, x, L, q, fun g1 H1 k e1 q1 => hQ g1 H1 _ e1 q1, hx⟩
theorem j_one {op} (h : JE X κ W a ta) : JE X κ W (.BoolOp op [a] pos) ta := pe_one h
theorem j_and (ha : JE X κ W a ta) (hb : JE X κ W (.BoolOp .And (b :: rest) pos) tb) : JE X κ W (.BoolOp .And (a :: b :: rest) pos) (e_and ta tb) := PE.weak (pe_and ha hb) fun σ H Q ⟨g0, H0, g, ρ, P, x, L, q, hQ, hx⟩ => by
  refine ⟨g0, H0, g, ρ, _, x, L, q, fun g1 H1 v d e1 r1 q1 => ?_, hx⟩
  unfold kOf at q1
  split at q1
  · rename_i k
    cases r1
    refine ⟨k, rfl, ?_⟩
    cases k with
    | true =>
      simp only [if_true] at q1 ⊢
      exact ⟨g0, H0, g1, ρ, P, x, L.ext e1, q1, fun g' H' v d e r p => hQ g' H' v d (e1.trans L.wf e) r p, hx⟩
    | false =>
      simp only [Bool.false_eq_true, if_false] at q1 ⊢
      exact hQ g1 H1 _ _ e1 (.bl false) q1
  · exact q1.elim
theorem j_or (ha : JE X κ W a ta) (hb : JE X κ W (.BoolOp .Or (b :: rest) pos) tb) : JE X κ W (.BoolOp .Or (a :: b :: rest) pos) (e_or ta tb) := PE.weak (pe_or ha hb) fun σ H Q ⟨g0, H0, g, ρ, P, x, L, q, hQ, hx⟩ => by
  refine ⟨g0, H0, g, ρ, _, x, L, q, fun g1 H1 v d e1 r1 q1 => ?_, hx⟩
  unfold kOf at q1
  split at q1
  · rename_i k
    cases r1
    refine ⟨k, rfl, ?_⟩
    cases k with
    | false =>
      simp only [Bool.false_eq_true, if_false] at q1 ⊢
      exact ⟨g0, H0, g1, ρ, P, x, L.ext e1, q1, fun g' H' v d e r p => hQ g' H' v d (e1.trans L.wf e) r p, hx⟩
    | true =>
      simp only [if_true] at q1 ⊢
      exact hQ g1 H1 _ _ e1 (.bl true) q1
  · exact q1.elim
theorem j_not (ha : JE X κ W a ta) : JE X κ W (.UnaryOp .Not a pos) (e_not ta) := PE.weak (pe_not ha) fun σ H Q ⟨g0, H0, g, ρ, P, x, L, q, hQ, hx⟩ => by
  refine ⟨g0, H0, g, ρ, _, x, L, q, fun g1 H1 v d e1 r1 q1 => ?_, hx⟩
  unfold kOf at q1
  split at q1
  · rename_i k
    cases r1
    exact ⟨k, rfl, hQ g1 H1 _ _ e1 (.bl _) q1⟩
  · exact q1.elim
theorem j_if (hc : JC X κ W c ca) (ha : JE X κ W a ta) (hb : JE X κ W b tb) : JE X κ W (.IfExp c a b pos) (e_if ca ta tb) := PE.weak (pe_ifExp hc ha hb) fun σ H Q ⟨g0, H0, g, ρ, P, x, L, q, hQ, hx⟩ => by
  refine ⟨g0, H0, g, ρ, _, x, L, q, fun g1 H1 k e1 q1 => ?_, hx⟩
  cases k with
  | true =>
    simp only [if_true] at q1 ⊢
    exact ⟨g0, H0, g1, ρ, P, x, L.ext e1, q1, fun g' H' v d e r p => hQ g' H' v d (e1.trans L.wf e) r p, hx⟩
  | false =>
    simp only [Bool.false_eq_true, if_false] at q1 ⊢
    exact ⟨g0, H0, g1, ρ, P, x, L.ext e1, q1, fun g' H' v d e r p => hQ g' H' v d (e1.trans L.wf e) r p, hx⟩

/-! ### arguments, tuples, lists, calls -/
theorem ArgR.ext {K : PySem.W.Frag} {g g1 : Gh} {H H1 : Hp} (e : Ext K g H g1 H1) : ∀ {s : List Bool} {vs : List V} {ds : List D}, ArgR K g s vs ds → ArgR K g1 s vs ds
  | _, _, _, .nil => .nil
  | _, _, _, .val r t => .val (r.sub e.gg) (ArgR.ext e t)
  | _, _, _, .draw h t => .draw (e.dd _ h) (ArgR.ext e t)
variable {es : List Expr} {sig : List Bool} {tr : uF}
theorem ja_nil : JA X κ W [] [] a_nil := PA.weak pa_nil fun σ H Q ⟨g0, H0, g, ρ, P, x, L, q, hQ, hx⟩ => hQ g H [] [] (Ext.refl L.wf) .nil q
theorem ja_cons (ha : JE X κ W e ta) (hr : JA X κ W es sig tr) (hs : starEach (e :: es) X.env = (false, eval e X.env) :: starEach es X.env := by rfl) : JA X κ W (e :: es) (false :: sig) (a_cons ta tr) :=
  PA.weak (pa_cons ha hr hs) fun σ H Q ⟨g0, H0, g, ρ, P, x, L, q, hQ, hx⟩ => by
  refine ⟨g0, H0, g, ρ, _, x, L, q, fun g1 H1 v d e1 r1 q1 => ?_, hx⟩
  exact ⟨g0, H0, g1, ρ, _, x, L.ext e1, q1, fun g' H' vs ds e r p => hQ g' H' _ _ (e1.trans L.wf e) (.val (Rp.sub e.gg r1) r) p, hx⟩
theorem ja_draw (i : Nat) {x : Str} (hr : JA X κ W es sig tr) (hN : X.N[i]? = some x := by rfl) (hv : Vis X.env.scope x := by first | exact Or.inl rfl | exact Or.inr (Or.inl rfl) | exact Or.inr (Or.inr rfl)) (hd : (x == ("__debug__" : Str)) = false := by decide)
    (hcd : (x == ("__classdict__" : Str)) = false := by decide) (hs : starEach (.Name x pos :: es) X.env = (false, eval (.Name x pos) X.env) :: starEach es X.env := by rfl) : JA X κ W (.Name x pos :: es) (true :: sig) (a_draw i tr) :=
  PA.weak (pa_cons (pe_var hN hv hd hcd) hr hs) fun σ H Q ⟨g0, H0, g, ρ, P, x, L, q, hQ, hx⟩ => by
  obtain ⟨q1, q2⟩ := q
  unfold isDraw at q1
  split at q1
  · rename_i e
    obtain ⟨o, h1, r⟩ := L.at e
    cases r with
    | draw hd => exact ⟨_, h1, g0, H0, g, ρ, _, x, L, q2, fun g' H' vs ds e r p => hQ g' H' _ _ e (.draw (e.dd _ hd) r) p, hx⟩
  · exact q1.elim
theorem ArgR.rpl {K : PySem.W.Frag} {g : Gh} : ∀ {s : List Bool} {vs : List V} {ds : List D}, (∀ b ∈ s, b = false) → ArgR K g s vs ds → RpL K g.G vs ds
  | _, _, _, _, .nil => .nil
  | _, _, _, h, .val r t => .cons r (ArgR.rpl (fun b hb => h b (List.mem_cons_of_mem _ hb)) t)
  | _, _, _, h, .draw _ _ => absurd (h true List.mem_cons_self) (by decide)
theorem ln_size : LN ≤ sizeLine := by rw [sizeLine_eq]; decide
theorem j_tup {k} (h : JA X κ W es sig tr) (hs : ∀ b ∈ sig, b = false := by decide) : JE X κ W (.Tuple es k pos) (e_tup tr) := PE.weak (pe_tup h) fun σ H Q ⟨g0, H0, g, ρ, P, x, L, q, hQ, hx⟩ => by
  refine ⟨g0, H0, g, ρ, _, x, L, q, fun g1 H1 vs ds e1 r1 q1 => ?_, hx⟩
  have r := r1.rpl hs
  refine ⟨by rw [r.len]; exact Nat.le_trans q1.1 ln_size, fun p np => ?_⟩
  have e2 : Ext X.K g1 H1 ⟨upd g1.G p (.tup vs), g1.Dr⟩ (upd H1 p (.tup vs)) := Ext.frozenNew e1.wf np
  exact hQ _ _ _ _ (e1.trans L.wf e2) (.tup (.inl (.inl upd_same)) (r.sub e2.gg)) q1.2
theorem jf_lst (h : JA X κ W es sig tr) (hs : ∀ b ∈ sig, b = false := by decide) : JF X κ W (.List es pos) (f_lst tr) := PE.weak (pe_lst h) fun σ H Q ⟨g0, H0, g, ρ, P, x, L, q, hQ, hx⟩ => by
  refine ⟨g0, H0, g, ρ, _, x, L, q, fun g1 H1 vs ds e1 r1 q1 => ?_, hx⟩
  have r := r1.rpl hs
  refine ⟨by rw [r.len]; exact Nat.le_trans q1.1 ln_size, fun p np => ?_⟩
  have e2 := Ext.fresh (o := .lst vs) e1.wf np
  have n := e1.wf.freeN np
  exact hQ g1 _ _ _ _ (e1.trans L.wf e2) (e1.noneOf L.wf np) n.1 n.2 upd_same r q1.2
/-- what a def promises -/
def spP (K : PySem.W.Frag) (κ : Cls) (sig : List Bool) (C : Con) : Sp := fun vs H Q E => ∃ g ds P x, WFg K g H ∧ ArgR K g sig vs ds ∧ C ds P x ∧ (∀ g' H' v d, Ext K g H g' H' → Rp K g'.G v d → P d → Q v H') ∧ LX K κ g H x E
theorem Ext.lx {K : PySem.W.Frag} {g0 g : Gh} {H0 H : Hp} {x : EX} (w : WFg K g0 H0) (e : Ext K g0 H0 g H) (h : LX K κ g0 H0 x W) : LX K κ g H x W := fun ee g' H' c d e' r q => h ee g' H' c d (e.trans w e') r q
theorem j_call {f : Addr} {fd : FuncData} {ps : List Str} {k : Nat} {x : Str} {p : Pos} {C : Con} (F : FnOk X.prog X.w X.K X.mg X.base (L2.CX X.prog X.w) k f fd ps (spP X.K κ sig C)) (hr : Room k X.A) (hg : Gl X x) (hm : X.mg x = some (.ref f)) (hk : PySem.W.keepIn X.K (.ref f) = true)
    (hb : Binds X.K fd ps []) (hp : Passes (L2.CX X.prog X.w) X W) (ha : JA X κ W (e :: es) sig tr) (hdb : (x == ("__debug__" : Str)) = false := by decide) (he : starEach (e :: es) X.env = (false, eval e X.env) :: starEach es X.env := by rfl)
    (hpl : (backTo pos (starEach es X.env)).any (·.1) = false := by rfl) : JE X κ W (.Call (.Name x p) (e :: es) [] pos) (e_call C tr) :=
  PE.weak (pe_call F hr hg hm hk hb .nil hp ha hdb he hpl) fun σ H Q ⟨g0, H0, g, ρ, P, x, L, q, hQ, hx⟩ => by
  refine ⟨g0, H0, g, ρ, _, x, L, q, fun g1 H1 vs ds e1 r1 q1 => ?_, hx⟩
  show spP X.K κ sig C (vs ++ []) H1 Q W
  rw [List.append_nil]
  exact ⟨g1, ds, P, x, e1.wf, r1, q1, fun g' H' v d e r p => hQ g' H' v d (e1.trans L.wf e) r p, Ext.lx L.w0 (L.ext e1).ex hx⟩
end
end PL

/-! tuple * int for any factor. -/
namespace PL
open PySem PySem.Spec PyProof.Rows L2
theorem tuple_mul1 (l : Addr) (items : Array Value) (n : Nat) (dd : Option Addr) (sl : Array (Option Value)) (x : Int) (u : Tok) (c0 : (decide (x < -(2 ^ 63)) || decide (x ≥ 2 ^ 63)) = false) (c1 : (items.isEmpty || x == 1) = true) :
    Meets (Builtin.«tuple.__mul__» ⟨[.ref l, .int x u], []⟩) (fun _ R s => s.heap.get? l = some { cls := .type "tuple", dict := dd, data := .seq items n, slots := sl } ∧ R (.ok (.ret (Value.ref l))) s) :=
  .of_wp fun prog w A R s h => by
    obtain ⟨hp, g, d, tk, os⟩ := s
    obtain ⟨hl, h⟩ := h
    have f1 := AutoSeq1.idx_int
    wp_walk using wpAny_loadPart' hl
    repeat (first
      | (refine wpAny_ite_false (decide_eq_false (by rw [c0]; exact Bool.false_ne_true)) ?_; wp_walk using wpAny_loadPart' hl)
      | (refine wpAny_ite_true (decide_eq_true (by rw [c1])) ?_; wp_walk using wpAny_loadPart' hl))
    exact ⟨_, rfl, h⟩
theorem tuple_mul0 (l : Addr) (items : Array Value) (n : Nat) (dd : Option Addr) (sl : Array (Option Value)) (x : Int) (u : Tok) (c0 : (decide (x < -(2 ^ 63)) || decide (x ≥ 2 ^ 63)) = false) (c1 : (items.isEmpty || x == 1) = false) (c2 : (decide (x ≤ 0) || items.isEmpty) = true) :
    Meets (Builtin.«tuple.__mul__» ⟨[.ref l, .int x u], []⟩) (fun _ R s => s.heap.get? l = some { cls := .type "tuple", dict := dd, data := .seq items n, slots := sl } ∧ R (.ok (.ret (Value.ref s.heap.objs.size))) { s with heap := s.heap.push { cls := Value.type "tuple", data := Data.seq #[] }, toks := s.toks }) :=
  .of_wp fun prog w A R s h => by
    obtain ⟨hp, g, d, tk, os⟩ := s
    obtain ⟨hl, h⟩ := h
    have f1 := AutoSeq1.idx_int
    wp_walk using wpAny_loadPart' hl
    repeat (first
      | (refine wpAny_ite_false (decide_eq_false (by rw [c0]; exact Bool.false_ne_true)) ?_; wp_walk using wpAny_loadPart' hl)
      | (refine wpAny_ite_false (decide_eq_false (by rw [c1]; exact Bool.false_ne_true)) ?_; wp_walk using wpAny_loadPart' hl)
      | (refine wpAny_ite_true (decide_eq_true (by rw [c2])) ?_; wp_walk using wpAny_loadPart' hl))
    exact ⟨_, rfl, h⟩
def rRepA (K : PySem.W.Frag) : R2 := fun x y H Q => ∃ l k xs, x = .ref l ∧ y = .int k ∧ SqT K H l xs ∧ -1000000 ≤ k ∧ k ≤ 1000 ∧ xs.length ≤ 1000 ∧ ((xs = [] ∨ k = 1) → Q (.ref l) H) ∧ (xs ≠ [] → k ≠ 1 → ∀ p, H p = none → Q (.ref p) (upd H p (.tup (List.replicate k.toNat xs).flatten)))
section
variable {X : Cx}
theorem op_repA : OpR X (binaryOp .Mult) (rRepA X.K) := by
  intro pins s σ H x y v u Q I rx ry h
  obtain ⟨l, k, xs, rfl, rfl, hT, h0, h2, hz, q1, q2⟩ := h
  by_cases hk : 2 ≤ k ∧ xs ≠ []
  · exact op_repT pins s σ H _ _ v u Q I rx ry ⟨l, k, xs, rfl, rfl, hT, hk.2, hk.1, h2, hz, q2 hk.2 (by omega)⟩
  cases rx
  obtain ⟨t, rfl⟩ := ry
  obtain ⟨its, r, ⟨⟨cls, dd, data, sl⟩, ho, hc, n, hd⟩, hs⟩ := I.tuple hT
  simp only at hc hd
  subst hc hd
  have hle : its.length = xs.length := r.length.symm
  have c0 : (decide (k < -(2 ^ 63)) || decide (k ≥ 2 ^ 63)) = false := by
    rw [decide_eq_false (by omega), decide_eq_false (by omega)] <;> rfl
  have hemp : its.toArray.isEmpty = true ↔ xs = [] := by
    cases its with
    | nil =>
      have : xs = [] := List.eq_nil_of_length_eq_zero (by rw [← hle]; rfl)
      simp [this]
    | cons a b =>
      have : xs ≠ [] := fun e => by rw [e] at hle; cases hle
      simp [this]
  by_cases h1 : xs = [] ∨ k = 1
  · have c1 : (its.toArray.isEmpty || k == 1) = true := by
      rcases h1 with h1 | h1
      · rw [hemp.mpr h1]; rfl
      · rw [h1]; simp
    refine wpAny_binaryOp_repeat_ref (T := "tuple") (U := "int") (by decide) ⟨_, ho, rfl⟩ (fun s' => typeIs_int s' k t) noFill_tuple_mul F.fills_int_mul F.slot_int_rmul repeat_tuple F.slot_int_index.lookup
      (call_meets F.slot_int_rmul (typeIs_int s k t) F.entry_int_rmul (F.args_int_rmul_2 _ _) (int_rmul_tuple k t l its.toArray n dd sl)
        ⟨ho, rfl, ⟨_, ho, rfl⟩, call_meets F.slot_tuple_mul ⟨_, ho, rfl⟩ F.entry_tuple_mul (F.args_tuple_mul_2 _ _) (tuple_mul1 l its.toArray n dd sl k t c0 c1) ⟨ho, ?_⟩⟩)
    exact ⟨.ref l, _, I, rfl, q1 h1⟩
  · have hne : xs ≠ [] := fun e => h1 (.inl e)
    have hk1 : k ≠ 1 := fun e => h1 (.inr e)
    have hk0 : k ≤ 0 := by
      apply Classical.byContradiction
      intro z
      exact hk ⟨by omega, hne⟩
    have he : its.toArray.isEmpty = false := by
      cases e : its.toArray.isEmpty with
      | false => rfl
      | true => exact absurd (hemp.mp e) hne
    have c1 : (its.toArray.isEmpty || k == 1) = false := by
      rw [he, Bool.false_or]; exact beq_eq_false_iff_ne.mpr hk1
    have c2 : (decide (k ≤ 0) || its.toArray.isEmpty) = true := by rw [decide_eq_true hk0]; rfl
    refine wpAny_binaryOp_repeat_ref (T := "tuple") (U := "int") (by decide) ⟨_, ho, rfl⟩ (fun s' => typeIs_int s' k t) noFill_tuple_mul F.fills_int_mul F.slot_int_rmul repeat_tuple F.slot_int_index.lookup
      (call_meets F.slot_int_rmul (typeIs_int s k t) F.entry_int_rmul (F.args_int_rmul_2 _ _) (int_rmul_tuple k t l its.toArray n dd sl)
        ⟨ho, rfl, ⟨_, ho, rfl⟩, call_meets F.slot_tuple_mul ⟨_, ho, rfl⟩ F.entry_tuple_mul (F.args_tuple_mul_2 _ _) (tuple_mul0 l its.toArray n dd sl k t c0 c1 c2) ⟨ho, ?_⟩⟩)
    have e0 : (List.replicate k.toNat xs).flatten = [] := by rw [show k.toNat = 0 by omega]; rfl
    rw [e0] at q2
    refine ⟨.ref s.heap.objs.size, _, I.laid (t' := s.toks) (o := .tup []) (fun b ob q => Heap.get?_push_of_some _ q) (Nat.le_refl _) ?_, rfl, q2 hne hk1 _ (I.hok.fresh (Nat.le_refl _))⟩
    exact ⟨Nat.zero_le _, _, .nil, IsTup.new _ _⟩
end
end PL

namespace PL
open PySem PySem.Spec PyProof.Rows L2

/-! ### the operators by data -/
section
variable {X : Cx}
theorem OpR.alt {F : Value → Value → Sem Value} {r r' : R2} (h : OpR X F r) (h' : OpR X F r') : OpR X F (fun x y H Q => r x y H Q ∨ r' x y H Q) := OpR.or h h'
theorem d_sub : BOp X (binaryOp .Sub) o_sub := by
  refine ⟨_, op_sub, fun g H v1 v2 d1 d2 P Q w b1 b2 h hQ => ?_⟩
  unfold o_sub at h
  split at h
  · rename_i i j
    cases b1.int; cases b2.int
    exact ⟨i, j, rfl, rfl, hQ g H _ _ (Ext.refl w) (.int _) h⟩
  · exact h.elim
theorem d_mod : BOp X (binaryOp .Mod) o_mod := by
  refine ⟨_, op_modN, fun g H v1 v2 d1 d2 P Q w b1 b2 h hQ => ?_⟩
  unfold o_mod at h
  split at h
  · rename_i i j
    cases b1.int; cases b2.int
    exact ⟨i, j, rfl, rfl, h.1, hQ g H _ _ (Ext.refl w) (.int _) h.2⟩
  · exact h.elim
def CDivA (_ j : Int) : Prop := j ≠ 0 ∧ j.natAbs.log2 < 9000
theorem op_fdivA : OpR X (binaryOp .FloorDiv) (rI CDivA fun i j => .int (i.fdiv j)) := opI fun i j _ _ _ _ _ hc q => floordiv_int hc.1 q (.inl (PyProof.noPylong_of_log2 hc.2))
theorem d_fdiv : BOp X (binaryOp .FloorDiv) o_fdiv := by
  refine ⟨_, op_fdivA, fun g H v1 v2 d1 d2 P Q w b1 b2 h hQ => ?_⟩
  unfold o_fdiv at h
  split at h
  · rename_i i j
    cases b1.int; cases b2.int
    exact ⟨i, j, rfl, rfl, h.1, hQ g H _ _ (Ext.refl w) (.int _) h.2⟩
  · exact h.elim
theorem d_lt : BOp X (compareOp .Lt) o_lt := by
  refine ⟨_, op_lt, fun g H v1 v2 d1 d2 P Q w b1 b2 h hQ => ?_⟩
  unfold o_lt at h
  split at h
  · rename_i i j
    cases b1.int; cases b2.int
    exact ⟨i, j, rfl, rfl, hQ g H _ _ (Ext.refl w) (.bl _) h⟩
  · exact h.elim
theorem d_le : BOp X (compareOp .LtE) o_le := by
  refine ⟨_, op_le, fun g H v1 v2 d1 d2 P Q w b1 b2 h hQ => ?_⟩
  unfold o_le at h
  split at h
  · rename_i i j
    cases b1.int; cases b2.int
    exact ⟨i, j, rfl, rfl, hQ g H _ _ (Ext.refl w) (.bl _) h⟩
  · exact h.elim
theorem d_gt : BOp X (compareOp .Gt) o_gt := by
  refine ⟨_, op_gt, fun g H v1 v2 d1 d2 P Q w b1 b2 h hQ => ?_⟩
  unfold o_gt at h
  split at h
  · rename_i i j
    cases b1.int; cases b2.int
    exact ⟨i, j, rfl, rfl, hQ g H _ _ (Ext.refl w) (.bl _) h⟩
  · exact h.elim
theorem d_ge : BOp X (compareOp .GtE) o_ge := by
  refine ⟨_, op_ge, fun g H v1 v2 d1 d2 P Q w b1 b2 h hQ => ?_⟩
  unfold o_ge at h
  split at h
  · rename_i i j
    cases b1.int; cases b2.int
    exact ⟨i, j, rfl, rfl, hQ g H _ _ (Ext.refl w) (.bl _) h⟩
  · exact h.elim
theorem d_eq (hu : X.A.units + 64 < cLine) : BOp X (compareOp .Eq) o_eq := by
  refine ⟨_, OpR.alt op_eq (op_eqD hu), fun g H v1 v2 d1 d2 P Q w b1 b2 h hQ => ?_⟩
  unfold o_eq at h
  split at h
  · rename_i i j
    cases b1.int; cases b2.int
    refine .inl ⟨rfl, ?_⟩
    rw [dec_int]
    exact hQ g H _ _ (Ext.refl w) (.bl _) h
  · exact .inr ⟨_, _, b1.dp w, b2.dp w, h.1.1, h.1.2, hQ g H _ _ (Ext.refl w) (.bl _) h.2⟩
theorem d_ne (hu : X.A.units + 64 < cLine) : BOp X (compareOp .NotEq) o_ne := by
  refine ⟨_, OpR.alt op_ne (op_neD hu), fun g H v1 v2 d1 d2 P Q w b1 b2 h hQ => ?_⟩
  unfold o_ne at h
  split at h
  · rename_i i j
    cases b1.int; cases b2.int
    refine .inl ⟨rfl, ?_⟩
    rw [dec_int]
    exact hQ g H _ _ (Ext.refl w) (.bl _) h
  · exact .inr ⟨_, _, b1.dp w, b2.dp w, h.1.1, h.1.2, hQ g H _ _ (Ext.refl w) (.bl _) h.2⟩
theorem frozen_tup {g : Gh} {H : Hp} {p : Addr} {vs : List V} {ds : List D} (w : WFg X.K g H) (np : H p = none) (r : RpL X.K g.G vs ds) : Ext X.K g H ⟨upd g.G p (.tup vs), g.Dr⟩ (upd H p (.tup vs)) ∧ Rp X.K (upd g.G p (.tup vs)) (.ref p) (.tuple ds) := by
  have e : Ext X.K g H ⟨upd g.G p (.tup vs), g.Dr⟩ (upd H p (.tup vs)) := Ext.frozenNew w np
  exact ⟨e, .tup (.inl (.inl upd_same)) (r.sub e.gg)⟩
theorem frozen_lst {g : Gh} {H : Hp} {p : Addr} {vs : List V} {ds : List D} (w : WFg X.K g H) (np : H p = none) (r : RpL X.K g.G vs ds) : Ext X.K g H ⟨upd g.G p (.lst vs), g.Dr⟩ (upd H p (.lst vs)) ∧ Rp X.K (upd g.G p (.lst vs)) (.ref p) (.list ds) := by
  have e : Ext X.K g H ⟨upd g.G p (.lst vs), g.Dr⟩ (upd H p (.lst vs)) := Ext.frozenNew w np
  exact ⟨e, .lst upd_same (r.sub e.gg)⟩
theorem RpL.nil_iff {K : PySem.W.Frag} {G : Hp} {vs : List V} {ds : List D} (r : RpL K G vs ds) : vs = [] ↔ ds = [] := by
  cases r with
  | nil => simp
  | cons _ _ => simp
theorem d_add : BOp X (binaryOp .Add) o_add := by
  refine ⟨_, OpR.alt op_add (OpR.alt op_add_str (OpR.alt op_catA op_cat)), fun g H v1 v2 d1 d2 P Q w b1 b2 h hQ => ?_⟩
  unfold o_add at h
  split at h
  · rename_i i j
    cases b1.int; cases b2.int
    exact .inl ⟨i, j, rfl, rfl, hQ g H _ _ (Ext.refl w) (.int _) h⟩
  · rename_i i j
    cases b1.str; cases b2.str
    exact .inr (.inl ⟨i, j, rfl, rfl, Nat.le_trans h.1 ln_size, hQ g H _ _ (Ext.refl w) (.str _) h.2⟩)
  · rename_i xs ys
    obtain ⟨a, vs, rfl, s1, r1⟩ := b1.tup
    obtain ⟨b, us, rfl, s2, r2⟩ := b2.tup
    refine .inr (.inr (.inl ⟨a, b, vs, us, rfl, rfl, SqT.sub w.sub s1, SqT.sub w.sub s2, by rw [r1.len, r2.len]; exact Nat.le_trans h.1 ln_size, fun e => ?_, fun _ e => ?_, fun _ _ p np => ?_⟩))
    · have e' := r1.nil_iff.mp e
      subst e'
      exact hQ g H _ _ (Ext.refl w) (.tup s2 r2) h.2
    · have e' := r2.nil_iff.mp e
      subst e'
      rw [List.append_nil] at h
      exact hQ g H _ _ (Ext.refl w) (.tup s1 r1) h.2
    · obtain ⟨e, r⟩ := frozen_tup w np (r1.append r2)
      exact hQ _ _ _ _ e r h.2
  · rename_i xs ys
    obtain ⟨a, vs, rfl, s1, r1⟩ := b1.list w
    obtain ⟨b, us, rfl, s2, r2⟩ := b2.list w
    refine .inr (.inr (.inr ⟨a, b, vs, us, rfl, rfl, s1, s2, by rw [r1.len, r2.len]; exact Nat.le_trans h.1 ln_size, fun p np => ?_⟩))
    obtain ⟨e, r⟩ := frozen_lst w np (r1.append r2)
    exact hQ _ _ _ _ e r h.2
  · exact h.elim
theorem d_mul : BOp X (binaryOp .Mult) o_mul := by
  refine ⟨_, OpR.alt op_mulW (OpR.alt op_repA op_rep), fun g H v1 v2 d1 d2 P Q w b1 b2 h hQ => ?_⟩
  unfold o_mul at h
  split at h
  · rename_i i j
    cases b1.int; cases b2.int
    exact .inl ⟨i, j, rfl, rfl, h.1, hQ g H _ _ (Ext.refl w) (.int _) h.2⟩
  · rename_i xs k
    obtain ⟨a, vs, rfl, s1, r1⟩ := b1.tup
    cases b2.int
    obtain ⟨⟨h1, h2, h3⟩, hP⟩ := h
    refine .inr (.inl ⟨a, k, vs, rfl, rfl, SqT.sub w.sub s1, h1, h2, by rw [r1.len]; exact h3, fun e => ?_, fun _ _ p np => ?_⟩)
    · have e' : (List.replicate k.toNat xs).flatten = xs := by
        rcases e with e | e
        · rw [r1.nil_iff.mp e]; simp
        · rw [e]; simp
      rw [e'] at hP
      exact hQ g H _ _ (Ext.refl w) (.tup s1 r1) hP
    · obtain ⟨e, r⟩ := frozen_tup w np (r1.rep k.toNat)
      exact hQ _ _ _ _ e r hP
  · rename_i xs k
    obtain ⟨a, vs, rfl, s1, r1⟩ := b1.list w
    cases b2.int
    obtain ⟨⟨h1, h2, h3⟩, hP⟩ := h
    refine .inr (.inr ⟨a, k, vs, rfl, rfl, s1, by omega, by omega, ?_, fun p np => ?_⟩)
    · rw [r1.len]
      have : xs.length * k.toNat ≤ 1000 * 1000 := Nat.mul_le_mul h3 (by omega)
      exact Nat.le_trans this ln_size
    · obtain ⟨e, r⟩ := frozen_lst w np (r1.rep k.toNat)
      exact hQ _ _ _ _ e r hP
  · exact h.elim

/-! ### one value -/
def UOp (X : Cx) (F : Value → Sem Value) (f : Op1) : Prop := ∃ r : V → Hp → VK → Prop, UnR X F r ∧ ∀ g H v1 d1 (P : D → Prop) (Q : VK), WFg X.K g H → Bp X.K g H v1 d1 → f d1 P →
  (∀ g' H' v d, Ext X.K g H g' H' → Rp X.K g'.G v d → P d → Q v H') → r v1 H Q
variable {κ : Cls} {W : XK} {pos : Pos} {a b c e : Expr} {ta tb tc : uE}
theorem j_un {op : UnaryOp} {f : Op1} (ho : UOp X (unaryOp op) f) (ha : JB X κ W a ta) : JE X κ W (.UnaryOp op a pos) (e_un f ta) := by
  obtain ⟨r, h1, h2⟩ := ho
  exact PE.weak (pe_un h1 ha) fun σ H Q ⟨g0, H0, g, ρ, P, x, L, q, hQ, hx⟩ => ⟨g0, H0, g, ρ, _, x, L, q, fun g1 H1 v1 d1 e1 r1 q1 =>
    h2 g1 H1 v1 d1 P Q e1.wf r1 q1 fun g' H' v d e r p => hQ g' H' v d (e1.trans L.wf e) r p, hx⟩
theorem d_neg : UOp X (unaryOp .USub) o_neg := by
  refine ⟨_, un_neg, fun g H v1 d1 P Q w b1 h hQ => ?_⟩
  unfold o_neg at h
  split at h
  · cases b1.int
    exact ⟨_, rfl, hQ g H _ _ (Ext.refl w) (.int _) h⟩
  · exact h.elim
/-- a is None, a is True .. -/
theorem j_is {op : CmpOp} {f : Op1} {r : R2} {u : V} {te : L2.TE} (ho : OpR X (compareOp op) r) (hb : L2.PE X b (L2.tC u)) (hm : behindInMarks op b = false)
    (hd : ∀ g H v1 d1 (P : D → Prop) (Q : VK), WFg X.K g H → Bp X.K g H v1 d1 → f d1 P → (∀ g' H' v d, Ext X.K g H g' H' → Rp X.K g'.G v d → P d → Q v H') → r v1 u H Q)
    (ha : JB X κ W a ta) : JE X κ W (.Compare a [op] [b] pos) (e_un f ta) ∧ JC X κ W (.Compare a [op] [b] pos) (c_e (e_un f ta)) := by
  have key : ∀ σ H Q, tE X.K κ W (e_un f ta) σ H Q → L2.tOp r (tB X.K κ W ta) (L2.tC u) σ H Q := fun σ H Q ⟨g0, H0, g, ρ, P, x, L, q, hQ, hx⟩ => ⟨g0, H0, g, ρ, _, x, L, q, fun g1 H1 v1 d1 e1 r1 q1 =>
    hd g1 H1 v1 d1 P Q e1.wf r1 q1 fun g' H' v d e r p => hQ g' H' v d (e1.trans L.wf e) r p, hx⟩
  exact ⟨PE.weak (pe_cmpR ho ha hb hm) key, PT.weak (pt_cmpR ho ha hb hm) (tTest_of key)⟩
theorem isNone_dec {K : PySem.W.Frag} {g : Gh} {H : Hp} {v : V} {d : D} (b : Bp K g H v d) : decide (v = .non) = isNone d := by
  rcases b with r | ⟨a, vs, ds, rfl, rfl, _⟩
  · cases r <;> rfl
  · rfl
theorem j_isN {j p2} (ha : JB X κ W a ta) : JE X κ W (.Compare a [.Is] [.Constant .none j p2] pos) (e_un o_isN ta) ∧ JC X κ W (.Compare a [.Is] [.Constant .none j p2] pos) (c_e (e_un o_isN ta)) :=
  j_is (te := L2.tC .non) op_isN pe_non (nomark _) (fun g H v1 d1 P Q w b h hQ => ⟨rfl, by rw [isNone_dec b]; exact hQ g H _ _ (Ext.refl w) (.bl _) h⟩) ha
theorem j_notN {j p2} (ha : JB X κ W a ta) : JE X κ W (.Compare a [.IsNot] [.Constant .none j p2] pos) (e_un o_notN ta) ∧ JC X κ W (.Compare a [.IsNot] [.Constant .none j p2] pos) (c_e (e_un o_notN ta)) :=
  j_is (te := L2.tC .non) op_notN pe_non (nomark _) (fun g H v1 d1 P Q w b h hQ => ⟨rfl, by rw [isNone_dec b]; exact hQ g H _ _ (Ext.refl w) (.bl _) h⟩) ha
theorem j_isB {k : Bool} {j p2} (ha : JB X κ W a ta) : JE X κ W (.Compare a [.Is] [.Constant (.bool k) j p2] pos) (e_un (o_isB k) ta) ∧ JC X κ W (.Compare a [.Is] [.Constant (.bool k) j p2] pos) (c_e (e_un (o_isB k) ta)) :=
  j_is (te := L2.tC (.bl k)) op_isBl pe_bl (nomark _) (fun g H v1 d1 P Q w b h hQ => by
    unfold o_isB at h
    split at h
    · cases b.bl; exact ⟨_, k, rfl, rfl, hQ g H _ _ (Ext.refl w) (.bl _) h⟩
    · exact h.elim) ha
theorem j_notB {k : Bool} {j p2} (ha : JB X κ W a ta) : JE X κ W (.Compare a [.IsNot] [.Constant (.bool k) j p2] pos) (e_un (o_notB k) ta) ∧ JC X κ W (.Compare a [.IsNot] [.Constant (.bool k) j p2] pos) (c_e (e_un (o_notB k) ta)) :=
  j_is (te := L2.tC (.bl k)) op_notBl pe_bl (nomark _) (fun g H v1 d1 P Q w b h hQ => by
    unfold o_notB at h
    split at h
    · cases b.bl; exact ⟨_, k, rfl, rfl, hQ g H _ _ (Ext.refl w) (.bl _) h⟩
    · exact h.elim) ha

/-! ### built-ins -/
/-- a call of one value -/
def COp (X : Cx) (F : Value) (f : Op1) : Prop := ∃ r : List V → Hp → VK → Prop, CallR X F r ∧ ∀ g H v1 d1 (P : D → Prop) (Q : VK), WFg X.K g H → Bp X.K g H v1 d1 → f d1 P →
  (∀ g' H' v d, Ext X.K g H g' H' → Rp X.K g'.G v d → P d → Q v H') → r [v1] H Q
theorem tCB1 {r : List V → Hp → VK → Prop} {f : Op1} (hd : ∀ g H v1 d1 (P : D → Prop) (Q : VK), WFg X.K g H → Bp X.K g H v1 d1 → f d1 P → (∀ g' H' v d, Ext X.K g H g' H' → Rp X.K g'.G v d → P d → Q v H') → r [v1] H Q)
    (σ : L2.St) (H : Hp) (Q : VK) (h : tE X.K κ W (e_un f ta) σ H Q) : L2.tCB r (L2.tCons (tB X.K κ W ta) L2.tNil) σ H Q := by
  obtain ⟨g0, H0, g, ρ, P, x, L, q, hQ, hx⟩ := h
  exact ⟨g0, H0, g, ρ, _, x, L, q, fun g1 H1 v1 d1 e1 r1 q1 => hd g1 H1 v1 d1 P Q e1.wf r1 q1 fun g' H' v d e r p => hQ g' H' v d (e1.trans L.wf e) r p, hx⟩
theorem j_bi {x id : String} {p : Pos} {f : Op1} (hc : COp X (.builtin id) f) (hg : Gl X (Str.ofString x)) (hm : X.mg (Str.ofString x) = none) (hv : bootBuiltins (Str.ofString x) = some (.builtin id)) (ha : JB X κ W a ta) (hn : Str.ofString x ≠ "__name__" := by decide) (hdb : (Str.ofString x == ("__debug__" : Str)) = false := by decide)
    (hs : starEach [a] X.env = (false, eval a X.env) :: starEach [] X.env := by rfl) (hpl : (backTo pos (starEach [] X.env)).any (·.1) = false := by rfl) : JE X κ W (.Call (.Name (Str.ofString x) p) [a] [] pos) (e_un f ta) := by
  obtain ⟨r, h1, h2⟩ := hc
  exact PE.weak (pe_callB h1 hg hm hv (pa_cons ha pa_nil hs) hn hdb hs hpl) (tCB1 h2)
theorem j_ty {x T : String} {p : Pos} {f : Op1} (hc : COp X (.type T) f) (hg : Gl X (Str.ofString x)) (hm : X.mg (Str.ofString x) = none) (hv : bootBuiltins (Str.ofString x) = some (.type T)) (ha : JB X κ W a ta) (hn : Str.ofString x ≠ "__name__" := by decide) (hdb : (Str.ofString x == ("__debug__" : Str)) = false := by decide)
    (hs : starEach [a] X.env = (false, eval a X.env) :: starEach [] X.env := by rfl) (hpl : (backTo pos (starEach [] X.env)).any (·.1) = false := by rfl) : JE X κ W (.Call (.Name (Str.ofString x) p) [a] [] pos) (e_un f ta) := by
  obtain ⟨r, h1, h2⟩ := hc
  exact PE.weak (pe_callTy h1 hg hm hv (pa_cons ha pa_nil hs) hn hdb hs hpl) (tCB1 h2)
theorem b_len : COp X (.builtin "len") o_len := by
  refine ⟨_, call_len, fun g H v1 d1 P Q w b h hQ => ?_⟩
  unfold o_len at h
  split at h
  · obtain ⟨a, vs, rfl, s1, r1⟩ := b.tup
    exact ⟨_, _, rfl, .inr ⟨vs, SqT.sub w.sub s1, rfl⟩, by rw [r1.len]; exact hQ g H _ _ (Ext.refl w) (.int _) h⟩
  · obtain ⟨a, vs, rfl, s1, r1⟩ := b.list w
    exact ⟨_, _, rfl, .inl ⟨vs, SqL.of s1, rfl⟩, by rw [r1.len]; exact hQ g H _ _ (Ext.refl w) (.int _) h⟩
  · cases b.str
    exact ⟨_, _, rfl, ⟨Nat.le_trans h.1 ln_size, rfl⟩, hQ g H _ _ (Ext.refl w) (.int _) h.2⟩
  · exact h.elim
theorem b_abs : COp X (.builtin "abs") o_abs := by
  refine ⟨_, call_abs, fun g H v1 d1 P Q w b h hQ => ?_⟩
  unfold o_abs at h
  split at h
  · cases b.int
    exact ⟨_, rfl, hQ g H _ _ (Ext.refl w) (.int _) h⟩
  · exact h.elim
theorem b_int : COp X (.type "int") o_int := by
  refine ⟨_, call_int1, fun g H v1 d1 P Q w b h hQ => ?_⟩
  unfold o_int at h
  split at h
  · cases b.int
    exact .inl ⟨_, rfl, hQ g H _ _ (Ext.refl w) (.int _) h⟩
  · cases b.bl
    exact .inr ⟨_, rfl, hQ g H _ _ (Ext.refl w) (.int _) h⟩
  · exact h.elim
theorem b_tuple : COp X (.type "tuple") o_tuple := by
  refine ⟨_, call_tuple_of, fun g H v1 d1 P Q w b h hQ => ?_⟩
  unfold o_tuple at h
  split at h
  · obtain ⟨a, vs, rfl, s1, r1⟩ := b.tup
    exact ⟨a, vs, rfl, .inr ⟨SqT.sub w.sub s1, hQ g H _ _ (Ext.refl w) (.tup s1 r1) h⟩⟩
  · obtain ⟨a, vs, rfl, s1, r1⟩ := b.list w
    refine ⟨a, vs, rfl, .inl ⟨SqL.of s1, fun p np => ?_⟩⟩
    obtain ⟨e, r⟩ := frozen_tup w np r1
    exact hQ _ _ _ _ e r h
  · exact h.elim
theorem b_all (hc : X.calm = true) : COp X (.builtin "all") o_all := by
  refine ⟨_, cr_all hc, fun g H v1 d1 P Q w b h hQ => ?_⟩
  unfold o_all at h
  split at h
  · obtain ⟨a, vs, rfl, s1, r1⟩ := b.list w
    rename_i xs
    cases q : boolsOf xs with
    | none => rw [q] at h; exact h.elim
    | some ns =>
      rw [q] at h
      cases r1.boolsV q
      exact ⟨a, ns, rfl, SqL.of s1, hQ g H _ _ (Ext.refl w) (.bl _) h⟩
  · exact h.elim
theorem b_any (hc : X.calm = true) : COp X (.builtin "any") o_any := by
  refine ⟨_, cr_any hc, fun g H v1 d1 P Q w b h hQ => ?_⟩
  unfold o_any at h
  split at h
  · obtain ⟨a, vs, rfl, s1, r1⟩ := b.list w
    rename_i xs
    cases q : boolsOf xs with
    | none => rw [q] at h; exact h.elim
    | some ns =>
      rw [q] at h
      cases r1.boolsV q
      exact ⟨a, ns, rfl, SqL.of s1, hQ g H _ _ (Ext.refl w) (.bl _) h⟩
  · exact h.elim
/-- two values -/
def COp2 (X : Cx) (F : Value) (f : Op2) : Prop := ∃ r : List V → Hp → VK → Prop, CallR X F r ∧ ∀ g H v1 v2 d1 d2 (P : D → Prop) (Q : VK), WFg X.K g H → Bp X.K g H v1 d1 → Bp X.K g H v2 d2 → f d1 d2 P →
  (∀ g' H' v d, Ext X.K g H g' H' → Rp X.K g'.G v d → P d → Q v H') → r [v1, v2] H Q
theorem j_bi2 {x id : String} {p : Pos} {f : Op2} (hc : COp2 X (.builtin id) f) (hg : Gl X (Str.ofString x)) (hm : X.mg (Str.ofString x) = none) (hv : bootBuiltins (Str.ofString x) = some (.builtin id)) (ha : JB X κ W a ta) (hb : JB X κ W b tb) (hn : Str.ofString x ≠ "__name__" := by decide) (hdb : (Str.ofString x == ("__debug__" : Str)) = false := by decide)
    (hs : starEach [a, b] X.env = (false, eval a X.env) :: starEach [b] X.env := by rfl) (hs2 : starEach [b] X.env = (false, eval b X.env) :: starEach [] X.env := by rfl) (hpl : (backTo pos (starEach [b] X.env)).any (·.1) = false := by rfl) : JE X κ W (.Call (.Name (Str.ofString x) p) [a, b] [] pos) (e_op f ta tb) := by
  obtain ⟨r, h1, h2⟩ := hc
  refine PE.weak (pe_callB h1 hg hm hv (pa_cons ha (pa_cons hb pa_nil hs2) hs) hn hdb hs hpl) fun σ H Q h => ?_
  obtain ⟨g0, H0, g, ρ, P, x, L, q, hQ, hx⟩ := h
  refine ⟨g0, H0, g, ρ, _, x, L, q, fun g1 H1 v1 d1 e1 r1 q1 => ?_, hx⟩
  refine ⟨g0, H0, g1, ρ, _, x, L.ext e1, q1, fun g2 H2 v2 d2 e2 r2 q2 => ?_, hx⟩
  exact h2 g2 H2 v1 v2 d1 d2 P Q e2.wf (r1.ext e1.wf e2) r2 q2 fun g' H' v d e r p => hQ g' H' v d ((e1.trans L.wf e2).trans L.wf e) r p
theorem b_max (hc : X.calm = true) : COp2 X (.builtin "max") o_max := by
  refine ⟨_, call_max2 hc, fun g H v1 v2 d1 d2 P Q w b1 b2 h hQ => ?_⟩
  unfold o_max at h
  split at h
  · cases b1.int; cases b2.int
    exact ⟨_, _, rfl, hQ g H _ _ (Ext.refl w) (.int _) h⟩
  · exact h.elim
theorem b_min (hc : X.calm = true) : COp2 X (.builtin "min") o_min := by
  refine ⟨_, call_min2 hc, fun g H v1 v2 d1 d2 P Q w b1 b2 h hQ => ?_⟩
  unfold o_min at h
  split at h
  · cases b1.int; cases b2.int
    exact ⟨_, _, rfl, hQ g H _ _ (Ext.refl w) (.int _) h⟩
  · exact h.elim

/-! ### isinstance -/
def tyN : Ty → String
  | .tInt => "int"
  | .tBool => "bool"
  | .tStr => "str"
  | .tTuple => "tuple"
  | .tList => "list"
  | .tDict => "dict"
theorem tyOf {g : Gh} {H : Hp} {v : V} {d : D} (w : WFg X.K g H) (b : Bp X.K g H v d) : ∃ t : String, TyX X.K H v (.type t) ∧ ∀ T : Ty, PySem.W.kitOne X.K (.type t) (.type (tyN T)) = some (isTy T d) := by
  rcases b with r | ⟨a, vs, ds, rfl, rfl, _, _, h3, r⟩
  · cases r with
    | non => exact ⟨"NoneType", .base .non, fun T => by cases T <;> first | exact kit_ty (r := true) (by decide +kernel) | exact kit_ty (r := false) (by decide +kernel)⟩
    | bl k => exact ⟨"bool", .base (.bl k), fun T => by cases T <;> first | exact kit_ty (r := true) (by decide +kernel) | exact kit_ty (r := false) (by decide +kernel)⟩
    | int i => exact ⟨"int", .base (.int i), fun T => by cases T <;> first | exact kit_ty (r := true) (by decide +kernel) | exact kit_ty (r := false) (by decide +kernel)⟩
    | str x => exact ⟨"str", .base (.str x), fun T => by cases T <;> first | exact kit_ty (r := true) (by decide +kernel) | exact kit_ty (r := false) (by decide +kernel)⟩
    | lst e r => exact ⟨"list", .base (.lst (w.sub _ _ e)), fun T => by cases T <;> first | exact kit_ty (r := true) (by decide +kernel) | exact kit_ty (r := false) (by decide +kernel)⟩
    | tup e r =>
      refine ⟨"tuple", ?_, fun T => by cases T <;> first | exact kit_ty (r := true) (by decide +kernel) | exact kit_ty (r := false) (by decide +kernel)⟩
      rcases e with (e | ⟨o, e⟩) | ⟨o, its, n, hk, hc, _⟩
      · exact .base (.tup (w.sub _ _ e))
      · exact .fTuple (w.sub _ _ e)
      · exact .kTuple hk hc
  · exact ⟨"list", .base (.lst h3), fun T => by cases T <;> first | exact kit_ty (r := true) (by decide +kernel) | exact kit_ty (r := false) (by decide +kernel)⟩
theorem j_isin (T : Ty) {p p2 : Pos} {y : Str} (hg : Gl X "isinstance") (hm : X.mg "isinstance" = none) (ha : JB X κ W a ta) (hb : L2.PE X (.Name y p2) (L2.tC (.ty (tyN T))))
    (hs : starEach [a, .Name y p2] X.env = (false, eval a X.env) :: starEach [.Name y p2] X.env := by rfl) (hs2 : starEach [.Name y p2] X.env = (false, eval (.Name y p2) X.env) :: starEach [] X.env := by rfl) (hpl : (backTo pos (starEach [.Name y p2] X.env)).any (·.1) = false := by rfl) :
    JE X κ W (.Call (.Name "isinstance" p) [a, .Name y p2] [] pos) (e_un (o_isin T) ta) := by
  refine PE.weak (pe_callB call_isi hg hm (by decide +kernel) (pa_cons ha (pa_cons hb pa_nil hs2) hs) (by decide) (by decide) hs hpl) fun σ H Q ⟨g0, H0, g, ρ, P, x, L, q, hQ, hx⟩ => ?_
  refine ⟨g0, H0, g, ρ, _, x, L, q, fun g1 H1 v1 d1 e1 r1 q1 => ?_, hx⟩
  obtain ⟨t, ty, k⟩ := tyOf e1.wf r1
  exact ⟨v1, _, .type t, .type (tyN T), isTy T d1, rfl, .ty _, ty, k T, hQ g1 H1 _ _ e1 (.bl _) q1⟩

/-! ### items and slices -/
theorem at_val {K : PySem.W.Frag} {G : Hp} {vs : List V} {ds : List D} {i : Int} {d : D} (r : RpL K G vs ds) (h : at_ ds i = some d) : ∃ v, atI vs i = some v ∧ Rp K G v d := by
  unfold at_ at h
  unfold atI ixN
  rw [r.len]
  by_cases h0 : 0 ≤ i
  · rw [if_pos h0] at h ⊢
    obtain ⟨hl, _⟩ := List.getElem?_eq_some_iff.mp h
    obtain ⟨v, e, q⟩ := r.get h
    rw [if_pos (by omega)]
    exact ⟨v, e, q⟩
  · rw [if_neg h0] at h ⊢
    by_cases h1 : -(ds.length : Int) ≤ i
    · rw [if_pos h1] at h ⊢
      obtain ⟨v, e, q⟩ := r.get h
      exact ⟨v, e, q⟩
    · rw [if_neg h1] at h
      cases h
theorem oOf_some {Q : D → Prop} {o : Option D} (h : oOf Q o) : ∃ d, o = some d ∧ Q d := by
  cases o with
  | none => exact h.elim
  | some d => exact ⟨d, rfl, h⟩
theorem j_ix (ha : JB X κ W a ta) (hb : JB X κ W b tb) (hs : PlainIx b) : JE X κ W (.Subscript a b pos) (e_op o_ix ta tb) := by
  refine PE.weak (pe_ix ix_seq ha hb hs) (tB2 fun g H v1 v2 d1 d2 P Q w b1 b2 h hQ => ?_)
  unfold o_ix at h
  split at h
  · obtain ⟨a, vs, rfl, s1, r1⟩ := b1.tup
    cases b2.int
    obtain ⟨d, e, h⟩ := oOf_some h
    obtain ⟨v, e2, r2⟩ := at_val r1 e
    exact .inr (.inl ⟨a, vs, _, v, rfl, rfl, SqT.sub w.sub s1, e2, hQ g H v d (Ext.refl w) r2 h⟩)
  · obtain ⟨a, vs, rfl, s1, r1⟩ := b1.list w
    cases b2.int
    obtain ⟨d, e, h⟩ := oOf_some h
    obtain ⟨v, e2, r2⟩ := at_val r1 e
    exact .inl ⟨a, vs, _, v, rfl, rfl, SqL.of s1, e2, hQ g H v d (Ext.refl w) r2 h⟩
  · exact h.elim
theorem clamp_eq (n k : Nat) (o : Option Int) : HT.sIx n k o = clampIx n k o := by
  cases o with
  | none => rfl
  | some i =>
    show (if i < 0 then (i + (n : Int)).toNat else min i.toNat n) = if 0 ≤ i then min i.toNat n else (i + n).toNat
    by_cases h : 0 ≤ i
    · rw [if_pos h, if_neg (by omega)]
    · rw [if_neg h, if_pos (by omega)]
theorem RpL.cut {K : PySem.W.Frag} {G : Hp} {vs : List V} {ds : List D} (r : RpL K G vs ds) (lo hi : Option Int) : RpL K G (cutV vs lo hi) (cut ds lo hi) := by
  unfold cutV PL.cut
  rw [clamp_eq, clamp_eq, r.len]
  exact (r.drop _).take _
abbrev JP (X : Cx) (κ : Cls) (W : XK) (e : Option Expr) (T : uP) : Prop := L2.PO X e (fun σ H Q => ∃ g0 H0 g ρ P x, Lk X.K g0 H0 g H σ ρ ∧ T ρ P x ∧ (∀ g' H' o, Ext X.K g H g' H' → P o → Q o H') ∧ LX X.K κ g0 H0 x W)
theorem PO.weak {o : Option Expr} {t t' : L2.TO} (h : L2.PO X o t) (k : ∀ σ H Q, t' σ H Q → t σ H Q) : L2.PO X o t' := ⟨fun pins s σ H Q I q => h.run pins s σ H Q I (k _ _ _ q)⟩
theorem jp_none : JP X κ W none p_none := PO.weak po_none fun σ H Q ⟨g0, H0, g, ρ, P, x, L, q, hQ, hx⟩ => hQ g H none (Ext.refl L.wf) q
theorem jp_some (h : JB X κ W a ta) : JP X κ W (some a) (p_some ta) := PO.weak (po_some h) fun σ H Q ⟨g0, H0, g, ρ, P, x, L, q, hQ, hx⟩ => by
  refine ⟨g0, H0, g, ρ, _, x, L, q, fun g1 H1 v d e1 r1 q1 => ?_, hx⟩
  unfold iOf at q1
  split at q1
  · cases r1.int
    exact ⟨_, rfl, hQ g1 H1 _ e1 q1⟩
  · exact q1.elim
theorem SlR.or {r r' : V → Option Int → Option Int → Hp → VK → Prop} (h : L2.SlR X r) (h' : L2.SlR X r') : L2.SlR X (fun x lo hi H Q => r x lo hi H Q ∨ r' x lo hi H Q) := by
  intro pins s σ H x v vl vu lo hi sl Q I rx hs pl pu q
  rcases q with q | q
  · exact h pins s σ H x v vl vu lo hi sl Q I rx hs pl pu q
  · exact h' pins s σ H x v vl vu lo hi sl Q I rx hs pl pu q
theorem j_sl {lo hi : Option Expr} {p2 : Pos} {tl th : uP} (ha : JB X κ W a ta) (hl : JP X κ W lo tl) (hh : JP X κ W hi th) : JE X κ W (.Subscript a (.Slice lo hi none p2) pos) (e_sl ta tl th) :=
  PE.weak (pe_slice (SlR.or sl_list sl_tupA) ha hl hh) fun σ H Q ⟨g0, H0, g, ρ, P, x, L, q, hQ, hx⟩ => by
  refine ⟨g0, H0, g, ρ, _, x, L, q, fun g1 H1 v d e1 r1 q1 => ?_, hx⟩
  refine ⟨g0, H0, g1, ρ, _, x, L.ext e1, q1, fun g2 H2 lo e2 q2 => ?_, hx⟩
  refine ⟨g0, H0, g2, ρ, _, x, (L.ext e1).ext e2, q2, fun g3 H3 hi e3 q3 => ?_, hx⟩
  have e13 := (e1.trans L.wf e2).trans L.wf e3
  have b := (r1.ext e1.wf e2).ext e2.wf e3
  unfold o_sl at q3
  split at q3
  · rename_i ds
    obtain ⟨a, vs, rfl, s1, r1⟩ := b.tup
    refine .inr ⟨a, vs, rfl, SqT.sub e3.wf.sub s1, fun z => ?_, fun _ p np => ?_⟩
    · have ec : cut ds lo hi = ds := by
        rw [clamp_eq, clamp_eq, r1.len] at z
        unfold PL.cut
        rw [z.1, z.2, List.drop_zero, Nat.sub_zero, List.take_length]
      rw [ec] at q3
      exact hQ g3 H3 _ _ e13 (.tup s1 r1) q3
    · obtain ⟨e, r⟩ := frozen_tup e3.wf np (r1.cut lo hi)
      exact hQ _ _ _ _ (e13.trans L.wf e) r q3
  · obtain ⟨a, vs, rfl, s1, r1⟩ := b.list e3.wf
    refine .inl ⟨a, vs, rfl, SqL.of s1, fun p np => ?_⟩
    obtain ⟨e, r⟩ := frozen_lst e3.wf np (r1.cut lo hi)
    exact hQ _ _ _ _ (e13.trans L.wf e) r q3
  · exact q3.elim
/-- list(x): a list of the def's own -/
theorem jf_list {p : Pos} (hg : Gl X "list") (hm : X.mg "list" = none) (ha : JB X κ W a ta) (hs : starEach [a] X.env = (false, eval a X.env) :: starEach [] X.env := by rfl) (hpl : (backTo pos (starEach [] X.env)).any (·.1) = false := by rfl) : JF X κ W (.Call (.Name "list" p) [a] [] pos) (f_list ta) :=
  PE.weak (pe_callTy call_list_of hg hm (by decide +kernel) (pa_cons ha pa_nil hs) (by decide) (by decide) hs hpl) fun σ H Q ⟨g0, H0, g, ρ, P, x, L, q, hQ, hx⟩ => by
  refine ⟨g0, H0, g, ρ, _, x, L, q, fun g1 H1 v d e1 r1 q1 => ?_, hx⟩
  unfold seqQ at q1
  split at q1
  · obtain ⟨a, vs, rfl, s1, r1⟩ := r1.list e1.wf
    refine ⟨a, vs, rfl, .inl (SqL.of s1), fun p np => ?_⟩
    have n := e1.wf.freeN np
    exact hQ g1 _ _ _ _ (e1.trans L.wf (Ext.fresh e1.wf np)) (e1.noneOf L.wf np) n.1 n.2 upd_same r1 q1
  · obtain ⟨a, vs, rfl, s1, r1⟩ := r1.tup
    refine ⟨a, vs, rfl, .inr (SqT.sub e1.wf.sub s1), fun p np => ?_⟩
    have n := e1.wf.freeN np
    exact hQ g1 _ _ _ _ (e1.trans L.wf (Ext.fresh e1.wf np)) (e1.noneOf L.wf np) n.1 n.2 upd_same r1 q1
  · exact q1.elim
/-- a list of the def's own by + or * -/
theorem jf_cat (ha : JB X κ W a ta) (hb : JB X κ W b tb) : JF X κ W (.BinOp a .Add b pos) (f_op o_add ta tb) :=
  PE.weak (pe_op op_cat ha hb) fun σ H Q ⟨g0, H0, g, ρ, P, x, L, q, hQ, hx⟩ => by
  refine ⟨g0, H0, g, ρ, _, x, L, q, fun g1 H1 v1 d1 e1 r1 q1 => ?_, hx⟩
  refine ⟨g0, H0, g1, ρ, _, x, L.ext e1, q1, fun g2 H2 v2 d2 e2 r2 q2 => ?_, hx⟩
  have e12 := e1.trans L.wf e2
  have r1' := r1.ext e1.wf e2
  unfold o_add at q2
  split at q2
  · exact q2.elim
  · exact q2.2.elim
  · exact q2.2.elim
  · obtain ⟨a, vs, rfl, s1, r1⟩ := r1'.list e2.wf
    obtain ⟨b, us, rfl, s2, r2⟩ := r2.list e2.wf
    refine ⟨a, b, vs, us, rfl, rfl, s1, s2, by rw [r1.len, r2.len]; exact Nat.le_trans q2.1 ln_size, fun p np => ?_⟩
    have n := e2.wf.freeN np
    exact hQ g2 _ p _ _ (e12.trans L.wf (Ext.fresh e2.wf np)) (e12.noneOf L.wf np) n.1 n.2 upd_same (r1.append r2) q2.2
  · exact q2.elim
theorem jf_rep (ha : JB X κ W a ta) (hb : JB X κ W b tb) : JF X κ W (.BinOp a .Mult b pos) (f_op o_mul ta tb) :=
  PE.weak (pe_op op_rep ha hb) fun σ H Q ⟨g0, H0, g, ρ, P, x, L, q, hQ, hx⟩ => by
  refine ⟨g0, H0, g, ρ, _, x, L, q, fun g1 H1 v1 d1 e1 r1 q1 => ?_, hx⟩
  refine ⟨g0, H0, g1, ρ, _, x, L.ext e1, q1, fun g2 H2 v2 d2 e2 r2 q2 => ?_, hx⟩
  have e12 := e1.trans L.wf e2
  have r1' := r1.ext e1.wf e2
  unfold o_mul at q2
  split at q2
  · exact q2.2.elim
  · exact q2.2.elim
  · rename_i xs k
    obtain ⟨a, vs, rfl, s1, r1⟩ := r1'.list e2.wf
    cases r2.int
    obtain ⟨⟨h1, h2, h3⟩, hP⟩ := q2
    refine ⟨a, k, vs, rfl, rfl, s1, by omega, by omega, ?_, fun p np => ?_⟩
    · rw [r1.len]
      have : xs.length * k.toNat ≤ 1000 * 1000 := Nat.mul_le_mul h3 (by omega)
      exact Nat.le_trans this ln_size
    · have n := e2.wf.freeN np
      exact hQ g2 _ p _ _ (e12.trans L.wf (Ext.fresh e2.wf np)) (e12.noneOf L.wf np) n.1 n.2 upd_same (r1.rep k.toNat) hP
  · exact q2.elim
/-- three values -/
def COp3 (X : Cx) (F : Value) (f : D → D → D → (D → Prop) → Prop) : Prop := ∃ r : List V → Hp → VK → Prop, CallR X F r ∧ ∀ g H v1 v2 v3 d1 d2 d3 (P : D → Prop) (Q : VK), WFg X.K g H → Bp X.K g H v1 d1 → Bp X.K g H v2 d2 → Bp X.K g H v3 d3 → f d1 d2 d3 P →
  (∀ g' H' v d, Ext X.K g H g' H' → Rp X.K g'.G v d → P d → Q v H') → r [v1, v2, v3] H Q
theorem j_bi3 {x id : String} {p : Pos} {f : D → D → D → (D → Prop) → Prop} (hc : COp3 X (.builtin id) f) (hg : Gl X (Str.ofString x)) (hm : X.mg (Str.ofString x) = none) (hv : bootBuiltins (Str.ofString x) = some (.builtin id)) (ha : JB X κ W a ta) (hb : JB X κ W b tb) (hcc : JB X κ W c tc) (hn : Str.ofString x ≠ "__name__" := by decide)
    (hdb : (Str.ofString x == ("__debug__" : Str)) = false := by decide) (hs : starEach [a, b, c] X.env = (false, eval a X.env) :: starEach [b, c] X.env := by rfl) (hs2 : starEach [b, c] X.env = (false, eval b X.env) :: starEach [c] X.env := by rfl) (hs3 : starEach [c] X.env = (false, eval c X.env) :: starEach [] X.env := by rfl)
    (hpl : (backTo pos (starEach [b, c] X.env)).any (·.1) = false := by rfl) : JE X κ W (.Call (.Name (Str.ofString x) p) [a, b, c] [] pos) (e_op3 f ta tb tc) := by
  obtain ⟨r, h1, h2⟩ := hc
  refine PE.weak (pe_callB h1 hg hm hv (pa_cons ha (pa_cons hb (pa_cons hcc pa_nil hs3) hs2) hs) hn hdb hs hpl) fun σ H Q h => ?_
  obtain ⟨g0, H0, g, ρ, P, x, L, q, hQ, hx⟩ := h
  refine ⟨g0, H0, g, ρ, _, x, L, q, fun g1 H1 v1 d1 e1 r1 q1 => ?_, hx⟩
  refine ⟨g0, H0, g1, ρ, _, x, L.ext e1, q1, fun g2 H2 v2 d2 e2 r2 q2 => ?_, hx⟩
  refine ⟨g0, H0, g2, ρ, _, x, (L.ext e1).ext e2, q2, fun g3 H3 v3 d3 e3 r3 q3 => ?_, hx⟩
  exact h2 g3 H3 v1 v2 v3 d1 d2 d3 P Q e3.wf ((r1.ext e1.wf e2).ext e2.wf e3) (r2.ext e2.wf e3) r3 q3 fun g' H' v d e r p => hQ g' H' v d (((e1.trans L.wf e2).trans L.wf e3).trans L.wf e) r p
theorem call_min3 (hc : X.calm = true) : CallR X (.builtin "min") (fun xs H Q => ∃ i j k, xs = [.int i, .int j, .int k] ∧ Q (.int (if j < i then (if k < j then k else j) else (if k < i then k else i))) H) := by
  intro pins s σ H xs us Q I r h
  obtain ⟨i, j, k, rfl, q⟩ := h
  cases r with
  | cons r1 r => cases r with
    | cons r2 r => cases r with
      | cons r3 r =>
        cases r
        obtain ⟨t1, rfl⟩ := r1
        obtain ⟨t2, rfl⟩ := r2
        obtain ⟨t3, rfl⟩ := r3
        refine min_three_ints (I.ok.hd hc) fun h' tk hk => ⟨_, H, I.kept hk, ?_, q⟩
        by_cases h1 : j < i <;> by_cases h2 : k < j <;> by_cases h3 : k < i <;> simp only [h1, h2, h3, if_true, if_false] <;> exact ⟨_, rfl⟩
theorem b_min3 (hc : X.calm = true) : COp3 X (.builtin "min") o_min3 := by
  refine ⟨_, call_min3 hc, fun g H v1 v2 v3 d1 d2 d3 P Q w b1 b2 b3 h hQ => ?_⟩
  unfold o_min3 at h
  split at h
  · cases b1.int; cases b2.int; cases b3.int
    exact ⟨_, _, _, rfl, hQ g H _ _ (Ext.refl w) (.int _) h⟩
  · exact h.elim
end
end PL

namespace PL
open PySem PySem.Spec PyProof.Rows L2

theorem Sub.refl (G : Hp) : Sub G G := fun _ _ h => h
theorem Sub.trans {A B C : Hp} (h : Sub A B) (k : Sub B C) : Sub A C := fun b o z => k b o (h b o z)
theorem LS.up {K : PySem.W.Frag} {κ : Cls} {W : XK} {g0 : Gh} {H0 F F' : Hp} {E : L2.Ends} {P : Ends} (h : LS K κ W g0 H0 F E P) (s : Sub F F') : LS K κ W g0 H0 F' E P :=
  ⟨fun g' H' σ' ρ' L k => h.nx g' H' σ' ρ' L (s.trans k), h.rt, fun g' H' σ' ρ' L k => h.bk g' H' σ' ρ' L (s.trans k), fun g' H' σ' ρ' L k => h.ct g' H' σ' ρ' L (s.trans k), h.ex⟩

/-! ### what is walked -/
def Wk (K : PySem.W.Frag) (J : It) (ds : List D) (S : Gh → Hp → Prop) : Prop := ∀ g H, WFg K g H → S g H → (∀ (i : Nat) d, ds[i]? = some d → J.go i H ∧ ∀ x H', J.yld i H x H' → ∃ g', Ext K g H g' H' ∧ Rp K g'.G x d) ∧ J.stop ds.length H
def tI (K : PySem.W.Frag) (κ : Cls) (W : XK) (T : uI) : L2.TI := fun σ H R => ∃ g0 H0 g ρ P x, Lk K g0 H0 g H σ ρ ∧ T ρ P x ∧
  (∀ g' H' J ds, Ext K g H g' H' → Wk K J ds (fun g'' H'' => Sub g'.G g''.G) → P ds → R J H') ∧ LX K κ g0 H0 x W
/-- .. while nothing that stands is changed (within a comprehension) -/
def tIb (K : PySem.W.Frag) (κ : Cls) (W : XK) (T : uI) : L2.TI := fun σ H R => ∃ g0 H0 g ρ P x, Lk K g0 H0 g H σ ρ ∧ T ρ P x ∧
  (∀ g' H' J ds, Ext K g H g' H' → Wk K J ds (fun g'' H'' => Sub g'.G g''.G ∧ ∀ b o, H' b = some o → ¬ g'.Dr b → H'' b = some o) → P ds → R J H') ∧ LX K κ g0 H0 x W
abbrev JI (X : Cx) (κ : Cls) (W : XK) (tg e : Expr) (T : uI) : Prop := L2.PI X tg e (tI X.K κ W T)
abbrev JIb (X : Cx) (κ : Cls) (W : XK) (tg e : Expr) (T : uI) : Prop := L2.PI X tg e (tIb X.K κ W T)
section
variable {X : Cx} {κ : Cls} {W : XK} {pos : Pos} {tg a b c e : Expr} {ta tb tc : uE} {ti : uI}
theorem PI.weak {w w' : L2.TI} (h : L2.PI X tg e w) (k : ∀ σ H R, w' σ H R → w σ H R) : L2.PI X tg e w' := ⟨fun pins s σ H R I q => h.run pins s σ H R I (k _ _ _ q)⟩
theorem ji_b (h : JI X κ W tg e ti) : JIb X κ W tg e ti := PI.weak h fun σ H R ⟨g0, H0, g, ρ, P, x, L, q, hR, hx⟩ =>
  ⟨g0, H0, g, ρ, P, x, L, q, fun g' H' J ds e w p => hR g' H' J ds e (fun g'' H'' wf z => w g'' H'' wf z.1) p, hx⟩
/-- a list or a tuple -/
theorem pi_seqR {te : L2.TE} (h : L2.PE X e te) : L2.PI X tg e (fun σ H R => te σ H fun x H1 => ∃ p, x = .ref p ∧ (((∃ xs, SqL X.K H1 p xs) ∧ R (Itl X.K p) H1) ∨ ((∃ xs, SqT X.K H1 p xs) ∧ R (Itt X.K p) H1))) := by
  constructor
  intro pins s σ H R I q
  apply thn (h.run pins s σ H _ I q)
  rintro v s1 ⟨x, H1, I1, r1, p, rfl, hh⟩
  cases r1
  have fresh : ∀ z ∈ [s1.heap.objs.size], FpOk X pins H1 z := by
    intro z hz
    rw [List.mem_singleton.mp hz]
    exact I1.fpOk (Nat.le_refl _) (I1.hok.fresh (Nat.le_refl _))
  rcases hh with ⟨⟨xs, hs⟩, hR⟩ | ⟨⟨xs, hs⟩, hR⟩
  · obtain ⟨its, _, pl, _⟩ := I1.list hs
    apply wpAny_pyIter_list pl.isList
    exact ⟨_, [s1.heap.objs.size], _, Itl X.K p, H1, rfl, I1.kept (t' := s1.toks) (fun _ _ k => Heap.get?_push_of_some _ k), turn_list p _, ⟨_, Heap.get?_push_size _ rfl, rfl, rfl⟩, fresh, hR⟩
  · obtain ⟨its, _, pl, _⟩ := I1.tuple hs
    apply wpAny_pyIter_tuple (show s1.heap.IsTuple p its.toArray from pl)
    exact ⟨_, [s1.heap.objs.size], _, Itt X.K p, H1, rfl, I1.kept (t' := s1.toks) (fun _ _ k => Heap.get?_push_of_some _ k), turn_tuple p _, ⟨_, Heap.get?_push_size _ rfl, rfl, rfl⟩, fresh, hR⟩
theorem getV_of {K : PySem.W.Frag} {G : Hp} {vs : List V} {ds : List D} (r : RpL K G vs ds) {i : Nat} {d : D} (h : ds[i]? = some d) {x : V} (hx : vs[i]? = some x) : Rp K G x d := by
  obtain ⟨v, e, q⟩ := r.get h
  rw [hx] at e; cases e
  exact q
theorem wk_list {K : PySem.W.Frag} {G : Hp} {p : Addr} {vs : List V} {ds : List D} {S : Gh → Hp → Prop} (r : RpL K G vs ds) (h : ∀ g H, WFg K g H → S g H → Sub G g.G ∧ SqL K H p vs) : Wk K (Itl K p) ds S := fun g H w s => by
  obtain ⟨h1, h2⟩ := h g H w s
  refine ⟨fun i d e => ?_, vs, h2, Nat.le_of_eq r.len⟩
  obtain ⟨v, e2, _⟩ := r.get e
  refine ⟨⟨vs, v, h2, e2⟩, fun x H' y => ?_⟩
  obtain ⟨rfl, y⟩ := y
  exact ⟨g, Ext.refl w, (getV_of r e (y vs h2)).sub h1⟩
theorem wk_tup {K : PySem.W.Frag} {G : Hp} {p : Addr} {vs : List V} {ds : List D} {S : Gh → Hp → Prop} (r : RpL K G vs ds) (hs : SqT K G p vs) (h : ∀ g H, WFg K g H → S g H → Sub G g.G) : Wk K (Itt K p) ds S := fun g H w s => by
  have h1 := h g H w s
  have h2 : SqT K H p vs := SqT.sub (h1.trans w.sub) hs
  refine ⟨fun i d e => ?_, vs, h2, Nat.le_of_eq r.len⟩
  obtain ⟨v, e2, _⟩ := r.get e
  refine ⟨⟨vs, v, h2, e2⟩, fun x H' y => ?_⟩
  obtain ⟨rfl, y⟩ := y
  exact ⟨g, Ext.refl w, (getV_of r e (y vs h2)).sub h1⟩
theorem ji_seq (ha : JE X κ W e ta) : JI X κ W tg e (i_seq ta) := PI.weak (pi_seqR ha) fun σ H R ⟨g0, H0, g, ρ, P, x, L, q, hR, hx⟩ => by
  refine ⟨g0, H0, g, ρ, _, x, L, q, fun g1 H1 v d e1 r1 q1 => ?_, hx⟩
  unfold seqQ at q1
  split at q1
  · cases r1 with
    | lst hs r => exact ⟨_, rfl, .inl ⟨⟨_, SqL.of (e1.wf.sub _ _ hs)⟩, hR g1 H1 _ _ e1 (wk_list r fun g H w s => ⟨s, SqL.of (w.sub _ _ (s _ _ hs))⟩) q1⟩⟩
  · cases r1 with
    | tup hs r => exact ⟨_, rfl, .inr ⟨⟨_, SqT.sub e1.wf.sub hs⟩, hR g1 H1 _ _ e1 (wk_tup r hs fun g H w s => s) q1⟩⟩
  · exact q1.elim
theorem jib_seq (ha : JB X κ W e ta) : JIb X κ W tg e (i_seq ta) := PI.weak (pi_seqR ha) fun σ H R ⟨g0, H0, g, ρ, P, x, L, q, hR, hx⟩ => by
  refine ⟨g0, H0, g, ρ, _, x, L, q, fun g1 H1 v d e1 r1 q1 => ?_, hx⟩
  unfold seqQ at q1
  split at q1
  · rcases r1 with r1 | ⟨a, vs, ds', rfl, e, n1, n2, hs, r⟩
    · cases r1 with
      | lst hs r => exact ⟨_, rfl, .inl ⟨⟨_, SqL.of (e1.wf.sub _ _ hs)⟩, hR g1 H1 _ _ e1 (wk_list r fun g H w s => ⟨s.1, SqL.of (w.sub _ _ (s.1 _ _ hs))⟩) q1⟩⟩
    · cases e
      exact ⟨_, rfl, .inl ⟨⟨_, SqL.of hs⟩, hR g1 H1 _ _ e1 (wk_list r fun g H w s => ⟨s.1, SqL.of (s.2 _ _ hs n2)⟩) q1⟩⟩
  · obtain ⟨p, vs, rfl, hs, r⟩ := r1.tup
    exact ⟨_, rfl, .inr ⟨⟨_, SqT.sub e1.wf.sub hs⟩, hR g1 H1 _ _ e1 (wk_tup r hs fun g H w s => s.1) q1⟩⟩
  · exact q1.elim
theorem upTo_get : ∀ (n : Nat) (lo : Int) (i : Nat) (d : D), (upTo lo n)[i]? = some d → i < n ∧ d = .int (lo + i)
  | 0, _, _, _, h => by simp [upTo] at h
  | n + 1, lo, 0, d, h => by
    simp [upTo] at h
    exact ⟨Nat.succ_pos _, by rw [← h]; simp⟩
  | n + 1, lo, i + 1, d, h => by
    have h' : (upTo (lo + 1) n)[i]? = some d := by simpa [upTo] using h
    obtain ⟨a, b⟩ := upTo_get n (lo + 1) i d h'
    exact ⟨by omega, by rw [b]; congr 1; omega⟩
theorem upTo_len : ∀ (n : Nat) (lo : Int), (upTo lo n).length = n
  | 0, _ => rfl
  | n + 1, lo => by show (upTo (lo + 1) n).length + 1 = n + 1; rw [upTo_len n]
theorem stepTo_get : ∀ (n : Nat) (lo c : Int) (i : Nat) (d : D), (stepTo lo c n)[i]? = some d → i < n ∧ d = .int (lo + i * c)
  | 0, _, _, _, _, h => by simp [stepTo] at h
  | n + 1, lo, c, 0, d, h => by
    simp [stepTo] at h
    exact ⟨Nat.succ_pos _, by rw [← h]; simp⟩
  | n + 1, lo, c, i + 1, d, h => by
    have h' : (stepTo (lo + c) c n)[i]? = some d := by simpa [stepTo] using h
    obtain ⟨a, b⟩ := stepTo_get n (lo + c) c i d h'
    refine ⟨by omega, ?_⟩
    rw [b, Int.natCast_add, Int.add_mul]
    congr 1
    omega
theorem stepTo_len : ∀ (n : Nat) (lo c : Int), (stepTo lo c n).length = n
  | 0, _, _ => rfl
  | n + 1, lo, c => by show (stepTo (lo + c) c n).length + 1 = n + 1; rw [stepTo_len n]
theorem wk_range {K : PySem.W.Frag} {lo : Int} {n : Nat} {S : Gh → Hp → Prop} : Wk K (Itr lo n) (upTo lo n) S := fun g H w s => by
  refine ⟨fun i d e => ?_, by rw [upTo_len]; exact Nat.le_refl _⟩
  obtain ⟨h1, rfl⟩ := upTo_get n lo i d e
  refine ⟨h1, fun x H' y => ?_⟩
  obtain ⟨rfl, rfl⟩ := y
  exact ⟨g, Ext.refl w, .int _⟩
theorem wk_rangeC {K : PySem.W.Frag} {lo c : Int} {n : Nat} {S : Gh → Hp → Prop} : Wk K (Itc lo c n) (stepTo lo c n) S := fun g H w s => by
  refine ⟨fun i d e => ?_, by rw [stepTo_len]; exact Nat.le_refl _⟩
  obtain ⟨h1, rfl⟩ := stepTo_get n lo c i d e
  refine ⟨h1, fun x H' y => ?_⟩
  obtain ⟨rfl, rfl⟩ := y
  exact ⟨g, Ext.refl w, .int _⟩
theorem nOf_int {Q : Int → Prop} {g : Gh} {H : Hp} {v : V} {d : D} (b : Bp X.K g H v d) (h : nOf Q d) : ∃ i, v = .int i ∧ Q i := by
  unfold nOf at h
  split at h
  · cases b.int; exact ⟨_, rfl, h⟩
  · exact h.elim
theorem rOk_wide {i : Int} (h : rOk i) : -(2 ^ 62) ≤ i ∧ i < 2 ^ 62 := by unfold rOk at h; omega
theorem ji_rng1 {p : Pos} (hg : Gl X "range") (hm : X.mg "range" = none) (ha : JB X κ W a ta) (hs : starEach [a] X.env = (false, eval a X.env) :: starEach [] X.env := by rfl) (hs1 : starEach [a] X.env = [(false, eval a X.env)] := by rfl) : JI X κ W tg (.Call (.Name "range" p) [a] [] pos) (i_rng1 ta) :=
  PI.weak (pi_range1 hg hm (pa_cons ha pa_nil hs) hs1) fun σ H R ⟨g0, H0, g, ρ, P, x, L, q, hR, hx⟩ => by
  refine ⟨g0, H0, g, ρ, _, x, L, q, fun g1 H1 v d e1 r1 q1 => ?_, hx⟩
  obtain ⟨j, rfl, q1, q2⟩ := nOf_int r1 q1
  have w := rOk_wide q1
  exact ⟨j, rfl, w.1, w.2, hR g1 H1 _ _ e1 wk_range q2⟩
theorem ji_rng2 {p : Pos} (hg : Gl X "range") (hm : X.mg "range" = none) (ha : JB X κ W a ta) (hb : JB X κ W b tb) (hs : starEach [a, b] X.env = (false, eval a X.env) :: starEach [b] X.env := by rfl) (hs2 : starEach [b] X.env = (false, eval b X.env) :: starEach [] X.env := by rfl)
    (k1 : starEach [a, b] X.env = [(false, eval a X.env), (false, eval b X.env)] := by rfl) (k2 : starEach [b] X.env = [(false, eval b X.env)] := by rfl) : JI X κ W tg (.Call (.Name "range" p) [a, b] [] pos) (i_rng2 ta tb) :=
  PI.weak (pi_range2 hg hm (pa_cons ha (pa_cons hb pa_nil hs2) hs) k1 k2) fun σ H R ⟨g0, H0, g, ρ, P, x, L, q, hR, hx⟩ => by
  refine ⟨g0, H0, g, ρ, _, x, L, q, fun g1 H1 v d e1 r1 q1 => ?_, hx⟩
  obtain ⟨i, rfl, q1⟩ := nOf_int r1 q1
  refine ⟨g0, H0, g1, ρ, _, x, L.ext e1, q1, fun g2 H2 v d e2 r2 q2 => ?_, hx⟩
  obtain ⟨j, rfl, q2, q3⟩ := nOf_int r2 q2
  have w1 := rOk_wide q2.1
  have w2 := rOk_wide q2.2
  exact ⟨i, j, rfl, ⟨w1.1, w1.2, w2.1, w2.2⟩, hR g2 H2 _ _ (e1.trans L.wf e2) wk_range q3⟩
theorem ji_rngD {p p2 p3 : Pos} {j0 : Nat} (hg : Gl X "range") (hm : X.mg "range" = none) (ha : JB X κ W a ta) (hb : JB X κ W b tb) (hs : starEach [a, b, .UnaryOp .USub (.Constant (.int 1) j0 p2) p3] X.env = (false, eval a X.env) :: starEach [b, .UnaryOp .USub (.Constant (.int 1) j0 p2) p3] X.env := by rfl)
    (hs2 : starEach [b, .UnaryOp .USub (.Constant (.int 1) j0 p2) p3] X.env = (false, eval b X.env) :: starEach [.UnaryOp .USub (.Constant (.int 1) j0 p2) p3] X.env := by rfl) (hpl : (backTo pos (starEach [b, .UnaryOp .USub (.Constant (.int 1) j0 p2) p3] X.env)).any (·.1) = false := by rfl) :
    JI X κ W tg (.Call (.Name "range" p) [a, b, .UnaryOp .USub (.Constant (.int 1) j0 p2) p3] [] pos) (i_rngD ta tb) :=
  PI.weak (pi_range3 hg hm (pa_cons ha (pa_cons hb (pa_cons (pe_un un_neg pe_int) pa_nil) hs2) hs) hs hpl) fun σ H R ⟨g0, H0, g, ρ, P, x, L, q, hR, hx⟩ => by
  refine ⟨g0, H0, g, ρ, _, x, L, q, fun g1 H1 v d e1 r1 q1 => ?_, hx⟩
  obtain ⟨i, rfl, q1⟩ := nOf_int r1 q1
  refine ⟨g0, H0, g1, ρ, _, x, L.ext e1, q1, fun g2 H2 v d e2 r2 q2 => ?_, hx⟩
  obtain ⟨j, rfl, q2, q3⟩ := nOf_int r2 q2
  have w1 := rOk_wide q2.1
  have w2 := rOk_wide q2.2
  exact ⟨1, rfl, i, j, -1, _, rfl, RgC.neg w1.1 w1.2 w2.1 w2.2, hR g2 H2 _ _ (e1.trans L.wf e2) wk_rangeC q3⟩

/-! ### targets -/
def tG (K : PySem.W.Frag) (sl : List Nat) (G : uG) : L2.TG := fun v σ H Q => ∃ g0 H0 g ρ d P, Lk K g0 H0 g H σ ρ ∧ Rp K g.G v d ∧ G d ρ P ∧
  (∀ σ' ρ', Lk K g0 H0 g H σ' ρ' → (∀ vs : List Nat, (∀ i ∈ sl, i ∈ vs) → wipe σ' vs = wipe σ vs) → P ρ' → Q σ' H)
def tGs (K : PySem.W.Frag) (sl : List Nat) (G : uGs) : L2.TGs := fun vs σ H Q => ∃ g0 H0 g ρ ds P, Lk K g0 H0 g H σ ρ ∧ RpL K g.G vs ds ∧ G ds ρ P ∧
  (∀ σ' ρ', Lk K g0 H0 g H σ' ρ' → (∀ vs : List Nat, (∀ i ∈ sl, i ∈ vs) → wipe σ' vs = wipe σ vs) → P ρ' → Q σ' H)
abbrev JG (X : Cx) (e : Expr) (sl : List Nat) (G : uG) : Prop := L2.PG X e (tG X.K sl G)
abbrev JGs (X : Cx) (e : List Expr) (sl : List Nat) (G : uGs) : Prop := L2.PGs X e (tGs X.K sl G)
theorem PG.weak {t t' : L2.TG} (h : L2.PG X e t) (k : ∀ v σ H Q, t' v σ H Q → t v σ H Q) : L2.PG X e t' := ⟨fun pins s σ H v u Q I r q => h.run pins s σ H v u Q I r (k _ _ _ _ q)⟩
theorem PGs.weak {es : List Expr} {t t' : L2.TGs} (h : L2.PGs X es t) (k : ∀ v σ H Q, t' v σ H Q → t v σ H Q) : L2.PGs X es t' := ⟨fun pins s σ H vs us Q I r q => h.run pins s σ H vs us Q I r (k _ _ _ _ q)⟩
theorem wipe_set {σ : L2.St} {i : Nat} {o : Option V} : ∀ {vs : List Nat}, i ∈ vs → wipe (σ.set i o) vs = wipe σ vs
  | v :: vs, h => by
    unfold wipe
    by_cases hv : i ∈ vs
    · rw [wipe_set hv]
    · have e : v = i := by
        rcases List.mem_cons.mp h with z | z
        · exact z.symm
        · exact absurd z hv
      subst e
      have key : ∀ (σ : L2.St) (vs : List Nat), v ∉ vs → wipe (σ.set v o) vs = (wipe σ vs).set v o := by
        intro σ vs
        induction vs with
        | nil => intro _; rfl
        | cons w ws ih =>
          intro hn
          have h1 : v ∉ ws := fun z => hn (List.mem_cons_of_mem _ z)
          have h2 : v ≠ w := fun z => hn (by rw [z]; exact List.mem_cons_self)
          show (wipe (σ.set v o) ws).set w none = ((wipe σ ws).set w none).set v o
          rw [ih h1, List.set_comm _ _ h2]
      rw [key σ vs hv, List.set_set]
theorem jg_n {i : Nat} {x : Str} (hN : X.N.Nodup) (hi : X.N[i]? = some x) (hx : L2.Loc X.env.scope x) (hf : X.fn x = true ∨ X.env.scope.names.lookup x = some .local := by first | exact .inl rfl | exact .inr rfl | assumption) : JG X (.Name x pos) [i] (g_n i) :=
  PG.weak (pg_name hN hi hx hf) fun v σ H Q ⟨g0, H0, g, ρ, d, P, L, r, q, hQ⟩ => hQ _ _ (L.setVal i r) (fun vs h => wipe_set (h i List.mem_cons_self)) q
theorem jgs_nil : JGs X [] [] g_nil := PGs.weak pgs_nil fun vs σ H Q ⟨g0, H0, g, ρ, ds, P, L, r, q, hQ⟩ => by
  cases r with
  | nil => exact ⟨rfl, hQ σ ρ L (fun _ _ => rfl) q⟩
  | cons _ _ => exact q.elim
theorem jgs_cons {es : List Expr} {s1 s2 : List Nat} {G : uG} {Gs : uGs} (h1 : JG X e s1 G) (h2 : JGs X es s2 Gs) (hs : (assignEach (e :: es) X.env).map (·.2) = assign e X.env :: (assignEach es X.env).map (·.2) := by rfl) : JGs X (e :: es) (s1 ++ s2) (g_cons G Gs) :=
  PGs.weak (pgs_cons h1 h2 hs) fun vs σ H Q ⟨g0, H0, g, ρ, ds, P, L, r, q, hQ⟩ => by
  cases r with
  | nil => exact q.elim
  | cons r t =>
    refine ⟨_, _, rfl, g0, H0, g, ρ, _, _, L, r, q, fun σ' ρ' L' hw q' => ?_⟩
    refine ⟨g0, H0, g, ρ', _, _, L', t, q', fun σ'' ρ'' L'' hw' q'' => ?_⟩
    exact hQ σ'' ρ'' L'' (fun vs h => (hw' vs fun i hi => h i (List.mem_append_right _ hi)).trans (hw vs fun i hi => h i (List.mem_append_left _ hi))) q''
/-- a list of targets takes so many items -/
def Takes_ (G : uGs) (n : Nat) : Prop := ∀ ds ρ P, G ds ρ P → ds.length = n
theorem tk_nil : Takes_ g_nil 0 := fun ds _ _ h => by cases ds with
  | nil => rfl
  | cons _ _ => exact h.elim
theorem tk_cons {G : uG} {Gs : uGs} {n : Nat} (k : ∀ d ρ P, G d ρ P → ∃ ρ', P ρ') (h : Takes_ Gs n) : Takes_ (g_cons G Gs) (n + 1) := fun ds ρ P q => by cases ds with
  | nil => exact q.elim
  | cons d ds =>
    obtain ⟨ρ', q'⟩ := k _ _ _ q
    show ds.length + 1 = n + 1
    rw [h _ _ _ q']
theorem tk_n {i : Nat} : ∀ d ρ P, g_n i d ρ P → ∃ ρ', P ρ' := fun _ _ _ h => ⟨_, h⟩
theorem tk_tup {Gs : uGs} (k : ∀ ds ρ P, Gs ds ρ P → ∃ ρ', P ρ') : ∀ d ρ P, g_tup Gs d ρ P → ∃ ρ', P ρ' := fun d ρ P h => by
  unfold g_tup at h
  split at h
  · exact k _ _ _ h
  · exact h.elim
theorem tk_nil2 : ∀ ds ρ P, g_nil ds ρ P → ∃ ρ', P ρ' := fun ds ρ P h => by cases ds with
  | nil => exact ⟨_, h⟩
  | cons _ _ => exact h.elim
theorem tk_cons2 {G : uG} {Gs : uGs} (k : ∀ d ρ P, G d ρ P → ∃ ρ', P ρ') (k2 : ∀ ds ρ P, Gs ds ρ P → ∃ ρ', P ρ') : ∀ ds ρ P, g_cons G Gs ds ρ P → ∃ ρ', P ρ' := fun ds ρ P h => by cases ds with
  | nil => exact h.elim
  | cons d ds =>
    obtain ⟨ρ', q'⟩ := k _ _ _ h
    exact k2 _ _ _ q'
theorem jg_tup {es : List Expr} {k n : Nat} {sl : List Nat} {Gs : uGs} (hc : X.calm = true) (h : JGs X es sl Gs) (ht : Takes_ Gs n) (hn : (assignEach es X.env).length = n := by rfl) (hst : (assignEach es X.env).findIdx? (·.1) = none := by rfl) : JG X (.Tuple es k pos) sl (g_tup Gs) :=
  PG.weak (pg_tup hc h hn hst) fun v σ H Q ⟨g0, H0, g, ρ, d, P, L, r, q, hQ⟩ => by
  unfold g_tup at q
  split at q
  · cases r with
    | tup hs r => exact ⟨_, _, rfl, SqT.sub L.wf.sub hs, by rw [r.len]; exact ht _ _ _ q, g0, H0, g, ρ, _, P, L, r, q, hQ⟩
  · exact q.elim

/-! ### comprehensions -/
theorem Lk.wipe {K : PySem.W.Frag} {g0 g : Gh} {H0 H : Hp} {σ : L2.St} {ρ : Env} (L : Lk K g0 H0 g H σ ρ) : ∀ vs : List Nat, Lk K g0 H0 g H (L2.wipe σ vs) (wipeE ρ vs)
  | [] => L
  | v :: vs => by
    have L1 := Lk.wipe L vs
    show Lk K g0 H0 g H ((L2.wipe σ vs).set v none) ((wipeE ρ vs).set v .emp)
    have key : ∀ (j : Nat) (o : Option V) (t : Sl), ((L2.wipe σ vs).set v none)[j]? = some o → ((wipeE ρ vs).set v .emp)[j]? = some t → t = .emp ∨ ((L2.wipe σ vs)[j]? = some o ∧ (wipeE ρ vs)[j]? = some t) := fun j o t h1 h2 => by
      by_cases hj : j = v
      · subst hj
        obtain ⟨hi, _⟩ := List.getElem?_eq_some_iff.mp h2
        rw [List.getElem?_set_self (by simpa using hi)] at h2
        cases h2
        exact .inl rfl
      · rw [List.getElem?_set_ne (Ne.symm hj)] at h1 h2
        exact .inr ⟨h1, h2⟩
    refine ⟨L1.w0, L1.ex, by simp [L1.len], fun j o t h1 h2 => ?_, fun j o t b h1 h2 h3 => ?_, fun j k o o' t u b hjk h1 h2 h3 h4 h5 h6 => ?_⟩
    · rcases key j o t h1 h2 with rfl | ⟨q1, q2⟩
      · exact .emp
      · exact L1.sl j o t q1 q2
    · rcases key j _ t h1 h2 with rfl | ⟨q1, q2⟩
      · cases h3
      · exact L1.fr j o t b q1 q2 h3
    · rcases key j _ t h1 h2 with rfl | ⟨q1, q2⟩
      · cases h3
      · rcases key k _ u h4 h5 with rfl | ⟨q3, q4⟩
        · cases h6
        · exact L1.di j k o o' t u b hjk q1 q2 h3 q3 q4 h6
end
end PL

namespace PL
open PySem PySem.Spec PyProof.Rows L2
/-- an object of one's own is changed -/
theorem Ext.updNew {K : PySem.W.Frag} {g0 g : Gh} {H0 H : Hp} {p : Addr} {o : HO} (e : Ext K g0 H0 g H) (n0 : H0 p = none) (n1 : g.G p = none) (n2 : ¬ g.Dr p) : Ext K g0 H0 g (upd H p o) := by
  refine ⟨e.gg, e.dd, fun b u hb hd => ?_, e.gn, e.dn, fun b u hb => ?_, fun b hb => ?_⟩
  · rw [upd_ne (show b ≠ p from fun z => by rw [z, n0] at hb; cases hb)]
    exact e.keep b u hb hd
  · rw [upd_ne (show b ≠ p from fun z => by rw [z, n1] at hb; cases hb)]
    exact e.wf.sub b u hb
  · obtain ⟨y1, l, ns, q, c, s, y2, y3⟩ := e.wf.dr b hb
    exact ⟨y1, l, ns, q, c, s, by rw [upd_ne (show b ≠ p from fun z => n2 (by rw [← z]; exact hb))]; exact y2, y3⟩
section
variable {X : Cx} {κ : Cls} {W : XK} {pos : Pos} {tg a b c e elt iter : Expr} {ta tb tc te : uE} {ti : uI} {ca : uC}

/-! ### comprehensions -/
abbrev JTs (X : Cx) (κ : Cls) (W : XK) (ifs : List Expr) (T : uC) : Prop := L2.PTs X ifs (tC X.K κ W T)
theorem PTs.weak {ifs : List Expr} {t t' : L2.TT} (h : L2.PTs X ifs t) (k : ∀ σ H Q, t' σ H Q → t σ H Q) : L2.PTs X ifs t' := ⟨fun pins s σ H Q I q => h.run pins s σ H Q I (k _ _ _ q)⟩
theorem jts_nil : JTs X κ W [] c_yes := PTs.weak pts_nil fun σ H Q ⟨g0, H0, g, ρ, P, x, L, q, hQ, hx⟩ => hQ g H true (Ext.refl L.wf) q
theorem jts_one (h : JC X κ W c ca) : JTs X κ W [c] ca := pts_one h
theorem drop_cons {ds : List D} {i : Nat} {d : D} (h : ds[i]? = some d) : ds.drop i = d :: ds.drop (i + 1) := by
  obtain ⟨hi, e⟩ := List.getElem?_eq_some_iff.mp h
  rw [List.drop_eq_getElem_cons hi, e]
/-- the reading of a comprehension -/
theorem tLc_of {G : uG} {sl own : List Nat} (hown : ∀ i ∈ sl, i ∈ own) (σ : L2.St) (H : Hp) (Q : VK) (h : tF X.K κ W (f_lc own ti G ca te) σ H Q) :
    L2.tLc (tIb X.K κ W ti) (tG X.K sl G) (tC X.K κ E0 ca) (tE X.K κ E0 te) own σ H Q := by
  obtain ⟨g0, H0, g, ρ, P, x, L, q, hQ, hx⟩ := h
  refine ⟨g0, H0, g, ρ, _, x, L, q, fun g1 H1 J ds e1 wk q1 => ?_, hx⟩
  obtain ⟨hlen, q1⟩ := q1
  have L1 := (L.ext e1).wipe own
  intro Dn nD
  have wf1 := e1.wf
  -- the state within: what stood ahead of the loop stands; the list at Dn holds acc
  refine ⟨fun i m Hi => m = ds.length - i ∧ i ≤ ds.length ∧ ∃ gi acc vs, Ext X.K g1 H1 gi Hi ∧ gi.G Dn = none ∧ ¬ gi.Dr Dn ∧ Hi Dn = some (.lst vs) ∧ RpL X.K gi.G vs acc ∧ acc.length ≤ i ∧ lcL G ca te (wipeE ρ own) P (ds.drop i) acc, ?_, ?_⟩
  · have n := wf1.freeN nD
    exact ⟨ds.length, by simp, Nat.zero_le _, g1, [], [], Ext.fresh wf1 nD, n.1, n.2, upd_same, .nil, Nat.le_refl _, q1⟩
  · rintro i m Hi ⟨rfl, hi, gi, acc, vs, ei, n1, n2, hD, r, hal, q⟩
    have stab : Sub g1.G gi.G ∧ ∀ b o, H1 b = some o → ¬ g1.Dr b → Hi b = some o := ⟨ei.gg, ei.keep⟩
    obtain ⟨k1, k2⟩ := wk gi Hi ei.wf stab
    by_cases hlt : i < ds.length
    · have hd : ds[i]? = some ds[i] := List.getElem?_eq_getElem hlt
      obtain ⟨hgo, hy⟩ := k1 i _ hd
      rw [drop_cons hd] at q
      refine .inr ⟨hgo, fun H' => ∃ gi' acc' vs', Ext X.K g1 H1 gi' H' ∧ gi'.G Dn = none ∧ ¬ gi'.Dr Dn ∧ H' Dn = some (.lst vs') ∧ RpL X.K gi'.G vs' acc' ∧ acc'.length ≤ i + 1 ∧ lcL G ca te (wipeE ρ own) P (ds.drop (i + 1)) acc', fun H' ⟨gi', acc', vs', z⟩ => ⟨ds.length - (i + 1), by omega, rfl, hlt, gi', acc', vs', z⟩, fun xv H2 y2 => ?_⟩
      obtain ⟨g2, e2, rx⟩ := hy xv H2 y2
      -- Dn is kept by steps that keep all
      have keepD : ∀ {ga gb : Gh} {Ha Hb : Hp} {zs : List V}, Ext X.K ga Ha gb Hb → ga.G Dn = none → ¬ ga.Dr Dn → Ha Dn = some (.lst zs) → gb.G Dn = none ∧ ¬ gb.Dr Dn ∧ Hb Dn = some (.lst zs) := by
        intro ga gb Ha Hb zs e m1 m2 m3
        refine ⟨?_, fun z => ?_, e.keep _ _ m3 m2⟩
        · cases z : gb.G Dn with
          | none => rfl
          | some u =>
            rcases e.gn Dn (by rw [z]; simp) with y | y
            · exact absurd m1 y
            · rw [m3] at y; cases y
        · rcases e.dn Dn z with y | y
          · exact m2 y
          · rw [m3] at y; cases y
      obtain ⟨n1', n2', hD'⟩ := keepD e2 n1 n2 hD
      have Lt : Lk X.K g0 H0 g2 H2 (wipe σ own) (wipeE ρ own) := L1.ext (ei.trans wf1 e2)
      refine ⟨g0, H0, g2, wipeE ρ own, _, _, Lt, rx, q, fun σ' ρ' L' hw q' => ?_⟩
      refine ⟨(hw own fun i hi => hown i hi).trans ?_, ?_⟩
      · -- wiping twice
        have idem : ∀ (vs : List Nat) (σ : L2.St), (∀ j, j ∈ vs → ∀ o, σ[j]? = some o → o = none) → wipe σ vs = σ := by
          intro vs
          induction vs with
          | nil => intro σ _; rfl
          | cons v vs ih =>
            intro σ hσ
            show (wipe σ vs).set v none = σ
            rw [ih σ fun j hj => hσ j (List.mem_cons_of_mem _ hj)]
            apply List.ext_getElem?
            intro j
            by_cases hj : j = v
            · subst hj
              cases z : σ[j]? with
              | none =>
                have : σ.length ≤ j := List.getElem?_eq_none_iff.mp z
                rw [List.getElem?_eq_none_iff.mpr (by simpa using this)]
              | some o =>
                obtain ⟨hl, _⟩ := List.getElem?_eq_some_iff.mp z
                rw [List.getElem?_set_self hl, hσ j List.mem_cons_self o z]
            · rw [List.getElem?_set_ne (Ne.symm hj)]
        have clean : ∀ (vs : List Nat) (σ : L2.St) (j : Nat), j ∈ vs → ∀ o, (wipe σ vs)[j]? = some o → o = none := by
          intro vs
          induction vs with
          | nil => intro σ j hj; exact absurd hj (by simp)
          | cons v vs ih =>
            intro σ j hj o ho
            have ho : ((wipe σ vs).set v none)[j]? = some o := ho
            by_cases hv : j = v
            · subst hv
              obtain ⟨hl, _⟩ := List.getElem?_eq_some_iff.mp ho
              rw [List.getElem?_set_self (by simpa using hl)] at ho
              cases ho; rfl
            · rw [List.getElem?_set_ne (Ne.symm hv)] at ho
              rcases List.mem_cons.mp hj with z | z
              · exact absurd z hv
              · exact ih σ j z o ho
        exact idem own (wipe σ own) (clean own σ)
      · refine ⟨g0, H0, g2, ρ', _, noEx, L', q', fun g3 H3 k e3 q3 => ?_, lx_none⟩
        obtain ⟨n1'', n2'', hD''⟩ := keepD e3 n1' n2' hD'
        have e13 := ((ei.trans wf1 e2).trans wf1 e3)
        cases k with
        | false =>
          simp only [Bool.false_eq_true, if_false] at q3 ⊢
          exact ⟨g3, acc, vs, e13, n1'', n2'', hD'', r.sub (e2.gg.trans e3.gg), Nat.le_succ_of_le hal, q3⟩
        | true =>
          simp only [if_true] at q3 ⊢
          refine ⟨g0, H0, g3, ρ', _, noEx, L'.ext e3, q3, fun g4 H4 v d e4 rv q4 => ?_, lx_none⟩
          obtain ⟨m1, m2, mD⟩ := keepD e4 n1'' n2'' hD''
          have e14 := e13.trans wf1 e4
          have r4 : RpL X.K g4.G vs acc := r.sub ((e2.gg.trans e3.gg).trans e4.gg)
          refine ⟨vs, mD, by rw [r4.len]; have := ln_size; omega, g4, acc ++ [d], vs ++ [v], ?_, m1, m2, upd_same, r4.append (.cons rv .nil), by rw [List.length_append, List.length_singleton]; omega, q4⟩
          exact e14.updNew nD m1 m2
    · have ei' : i = ds.length := by omega
      subst ei'
      rw [List.drop_length] at q
      refine .inl ⟨k2, ?_⟩
      exact hQ gi Hi Dn vs acc (e1.trans L.wf ei) (e1.noneOf L.wf nD) n1 n2 hD r q
variable {ifs : List Expr} {scope : Scope} {own : List (Str × Nat)} {sl vs : List Nat} {G : uG}
theorem jf_lc (hc : X.calm = true) (hN : X.N.Nodup) (hi : JIb X κ W tg iter ti) (ok : BlkOk X.N X.env.scope scope own) (hvs : own.map (·.2) = vs) (hown : ∀ i ∈ sl, i ∈ vs)
    (hg : ∀ (s : Shared) (H : Hp) (C : Addr) (cl : List (Str × Addr)) (fp : List Addr), JG (X.blk s H scope (compEnvC scope cl C X.env) fp) tg sl G) (ht : ∀ (s : Shared) (H : Hp) (C : Addr) (cl : List (Str × Addr)) (fp : List Addr), JTs (X.blk s H scope (compEnvC scope cl C X.env) fp) κ E0 ifs ca)
    (he : ∀ (s : Shared) (H : Hp) (C : Addr) (cl : List (Str × Addr)) (fp : List Addr), JE (X.blk s H scope (compEnvC scope cl C X.env) fp) κ E0 elt te) (hs : ∀ x, foldedSetIterable iter X.env x = pure x := by intro _; rfl) :
    JF X κ W (.ListComp elt [⟨tg, iter, ifs, 0⟩] scope pos) (f_lc vs ti G ca te) := by
  subst hvs
  exact PE.weak (pe_lc hc hN hi ok hg ht he hs) (tLc_of hown)

/-! ### statements -/
variable {st : Stmt} {sts : List Stmt} {t u : uS}
theorem jss_nil : JSs X κ W [] s_nil := PSs.weak pss_nil fun E σ H ⟨g0, H0, g, ρ, P, L, q, S⟩ => S.nx g H σ ρ L (Sub.refl _) q
theorem jss_cons (h1 : JS X κ W st t) (h2 : JSs X κ W sts u) : JSs X κ W (st :: sts) (s_seq t u) := PSs.weak (pss_cons h1 h2) fun E σ H ⟨g0, H0, g, ρ, P, L, q, S⟩ => by
  refine ⟨g0, H0, g, ρ, _, L, q, fun g' H' σ' ρ' L' s q' => ?_, S.rt, S.bk, S.ct, S.ex⟩
  exact ⟨g0, H0, g', ρ', P, L', q', S.up s⟩
theorem jss_one (h1 : JS X κ W st t) : JSs X κ W [st] t := pss_one h1
theorem js_brk : JS X κ W (.Break pos) s_brk := PS.weak ps_break fun E σ H ⟨g0, H0, g, ρ, P, L, q, S⟩ => S.bk g H σ ρ L (Sub.refl _) q
theorem js_cnt : JS X κ W (.Continue pos) s_cnt := PS.weak ps_continue fun E σ H ⟨g0, H0, g, ρ, P, L, q, S⟩ => S.ct g H σ ρ L (Sub.refl _) q
theorem js_pass : JS X κ W (.Pass pos) s_nil := PS.weak ps_pass fun E σ H ⟨g0, H0, g, ρ, P, L, q, S⟩ => S.nx g H σ ρ L (Sub.refl _) q
theorem js_ret (h : JE X κ W e ta) : JS X κ W (.Return (some e) pos) (s_ret ta) := PS.weak (ps_ret h) fun E σ H ⟨g0, H0, g, ρ, P, L, q, S⟩ =>
  ⟨g0, H0, g, ρ, P.rt, P.ex, L, q, fun g' H' v d e r p => S.rt g' H' v d (L.ext e).ex r p, S.ex⟩
theorem js_ex (h : JE X κ W e ta) (hs : swapsWith e none pos.line X.env = pure false := by rfl) : JS X κ W (.Expr e pos) (s_ex ta) := PS.weak (ps_expr h hs) fun E σ H ⟨g0, H0, g, ρ, P, L, q, S⟩ =>
  ⟨g0, H0, g, ρ, _, P.ex, L, q, fun g' H' v d e r p => S.nx g' H' σ ρ (L.ext e) e.gg p, S.ex⟩
theorem js_if {as bs : List Stmt} (hc : JC X κ W c ca) (ha : JSs X κ W as t) (hb : JSs X κ W bs u) : JS X κ W (.If c as bs pos) (s_if ca t u) := PS.weak (ps_if hc ha hb) fun E σ H ⟨g0, H0, g, ρ, P, L, q, S⟩ => by
  refine ⟨g0, H0, g, ρ, _, P.ex, L, q, fun g1 H1 k e1 q1 => ?_, S.ex⟩
  cases k with
  | true =>
    simp only [if_true] at q1 ⊢
    exact ⟨g0, H0, g1, ρ, P, L.ext e1, q1, S.up e1.gg⟩
  | false =>
    simp only [Bool.false_eq_true, if_false] at q1 ⊢
    exact ⟨g0, H0, g1, ρ, P, L.ext e1, q1, S.up e1.gg⟩
theorem js_set {i : Nat} {x : Str} {p2 : Pos} (hN : X.N.Nodup) (hi : X.N[i]? = some x) (hx : L2.Loc X.env.scope x) (h : JE X κ W e ta) (hs : swapsWith e (some (.Name x p2)) pos.line X.env = pure false := by rfl)
    (hf : X.fn x = true ∨ X.env.scope.names.lookup x = some .local := by first | exact .inl rfl | exact .inr rfl | assumption) : JS X κ W (.Assign [.Name x p2] e pos) (s_set i ta) := PS.weak (ps_set hN hi hx h hs hf) fun E σ H ⟨g0, H0, g, ρ, P, L, q, S⟩ =>
  ⟨g0, H0, g, ρ, _, P.ex, L, q, fun g' H' v d e r p => S.nx g' H' _ _ ((L.ext e).setVal i r) e.gg p, S.ex⟩
theorem own_set {K : PySem.W.Frag} {g0 g g' : Gh} {H0 H H' : Hp} {σ : L2.St} {ρ : Env} {i : Nat} {p : Addr} {vs : List V} {ds : List D} (L : Lk K g0 H0 g H σ ρ) (e : Ext K g H g' H') (n0 : H p = none) (n1 : g'.G p = none) (n2 : ¬ g'.Dr p) (hp : H' p = some (.lst vs)) (r : RpL K g'.G vs ds) :
    Lk K g0 H0 g' H' (σ.set i (some (.ref p))) (ρ.set i (.own ds)) := by
  refine (L.ext e).set i (.own n1 n2 hp r) fun b hb => ?_
  cases hb
  refine ⟨L.ex.noneOf L.w0 n0, fun j o t hj h1 h2 h3 => ?_⟩
  obtain ⟨us, k, _⟩ := (h3.back e (L.sl j o t h1 h2)).some (L.sl j o t h1 h2)
  rw [n0] at k; cases k
theorem js_own {i : Nat} {x : Str} {p2 : Pos} {tf : uF} (hN : X.N.Nodup) (hi : X.N[i]? = some x) (hx : L2.Loc X.env.scope x) (h : JF X κ W e tf) (hs : swapsWith e (some (.Name x p2)) pos.line X.env = pure false := by rfl)
    (hf : X.fn x = true ∨ X.env.scope.names.lookup x = some .local := by first | exact .inl rfl | exact .inr rfl | assumption) : JS X κ W (.Assign [.Name x p2] e pos) (s_own i tf) := PS.weak (ps_set hN hi hx h hs hf) fun E σ H ⟨g0, H0, g, ρ, P, L, q, S⟩ =>
  ⟨g0, H0, g, ρ, _, P.ex, L, q, fun g' H' p vs ds e n0 n1 n2 hp r pp => S.nx g' H' _ _ (own_set L e n0 n1 n2 hp r) e.gg pp, S.ex⟩
/-- y = [..] on one line, y a local -/
theorem js_lc {i : Nat} {y : Str} {py spos : Pos} (hc : X.calm = true) (hN : X.N.Nodup) (hy : X.N[i]? = some y) (hyl : X.env.scope.names.lookup y = some .local) (hsw : swapsWith (.ListComp elt [⟨tg, iter, ifs, 0⟩] scope pos) (some (.Name y py)) spos.line X.env = pure true)
    (hi : JIb X κ W tg iter ti) (ok : BlkOk X.N X.env.scope scope own) (hvs : own.map (·.2) = vs) (hown : ∀ i ∈ sl, i ∈ vs)
    (hg : ∀ (s : Shared) (H : Hp) (C : Addr) (cl : List (Str × Addr)) (fp : List Addr), JG (X.blk s H scope (compEnvC scope cl C X.env) fp) tg sl G) (ht : ∀ (s : Shared) (H : Hp) (C : Addr) (cl : List (Str × Addr)) (fp : List Addr), JTs (X.blk s H scope (compEnvC scope cl C X.env) fp) κ E0 ifs ca)
    (he : ∀ (s : Shared) (H : Hp) (C : Addr) (cl : List (Str × Addr)) (fp : List Addr), JE (X.blk s H scope (compEnvC scope cl C X.env) fp) κ E0 elt te) (hs : ∀ x, foldedSetIterable iter X.env x = pure x := by intro _; rfl) :
    JS X κ W (.Assign [.Name y py] (.ListComp elt [⟨tg, iter, ifs, 0⟩] scope pos) spos) (s_own i (f_lc vs ti G ca te)) := by
  subst hvs
  exact PS.weak (ps_setLc hc hN hy hyl hsw hi ok hg ht he hs) fun E σ H ⟨g0, H0, g, ρ, P, L, q, S⟩ =>
  tLc_of (κ := κ) (W := W) hown σ H _ ⟨g0, H0, g, ρ, _, P.ex, L, q, fun g' H' p vs ds e n0 n1 n2 hp r pp => S.nx g' H' _ _ (own_set L e n0 n1 n2 hp r) e.gg pp, S.ex⟩
/-- a, b = a tuple -/
theorem js_unp {sl : List Nat} {G : uG} (h : JE X κ W e ta) (hg : JG X tg sl G) (hs : swapsWithSole [tg] e pos.line X.env = pure false := by rfl) (hw : swappedStores [tg] e X.env = pure none := by rfl)
    (h1 : (assignEach [tg] X.env).map (·.2) = [assign tg X.env] := by rfl) : JS X κ W (.Assign [tg] e pos) (s_unp G ta) := PS.weak (ps_asg h hg hs hw h1) fun E σ H ⟨g0, H0, g, ρ, P, L, q, S⟩ =>
  ⟨g0, H0, g, ρ, _, P.ex, L, q, fun g' H' v d e r p => ⟨g0, H0, g', ρ, d, P.nx, L.ext e, r, p, fun σ' ρ' L' _ q' => S.nx g' H' σ' ρ' L' e.gg q'⟩, S.ex⟩
theorem js_par {i j : Nat} {x y : Str} {px py pt : Pos} {kt k2 pt2} (hc : X.calm = true) (hN : X.N.Nodup) (hi : X.N[i]? = some x) (hj : X.N[j]? = some y) (hij : i ≠ j)
    (hx : X.env.scope.names.lookup x = some .local) (hy : X.env.scope.names.lookup y = some .local) (ha : JE X κ W a ta) (hb : JE X κ W b tb)
    (hw : swappedStores [.Tuple [.Name x px, .Name y py] kt pt] (.Tuple [a, b] k2 pt2) X.env = pure (some [x, y]))
    (hs : swapsWithSole [.Tuple [.Name x px, .Name y py] kt pt] (.Tuple [a, b] k2 pt2) pos.line X.env = pure false := by rfl)
    (k1 : starEach [a, b] X.env = (false, eval a X.env) :: starEach [b] X.env := by rfl) (k2' : starEach [b] X.env = (false, eval b X.env) :: starEach [] X.env := by rfl) :
    JS X κ W (.Assign [.Tuple [.Name x px, .Name y py] kt pt] (.Tuple [a, b] k2 pt2) pos) (s_par i j ta tb) :=
  PS.weak (ps_par hc hN hi hj hij hx hy (pa_cons ha (pa_cons hb pa_nil k2') k1) hw hs) fun E σ H ⟨g0, H0, g, ρ, P, L, q, S⟩ => by
  refine ⟨g0, H0, g, ρ, _, P.ex, L, q, fun g1 H1 v d e1 r1 q1 => ?_, S.ex⟩
  refine ⟨g0, H0, g1, ρ, _, P.ex, L.ext e1, q1, fun g2 H2 v2 d2 e2 r2 q2 => ?_, S.ex⟩
  exact ⟨v, v2, rfl, S.nx g2 H2 _ _ ((((L.ext e1).ext e2).setVal i (Rp.sub e2.gg r1)).setVal j r2) (e1.gg.trans e2.gg) q2⟩
/-- a list that slot i owns is changed -/
theorem Lk.chg {K : PySem.W.Frag} {g0 g : Gh} {H0 H : Hp} {σ : L2.St} {ρ : Env} (L : Lk K g0 H0 g H σ ρ) {i : Nat} {o : Option V} {s s' : Sl} {p : Addr} {ob : HO} (hσ : σ[i]? = some o) (hρ : ρ[i]? = some s) (hp : Own H o s p)
    (r : SlR K g (upd H p ob) o s') (hown : ∀ b, Own (upd H p ob) o s' b → Own H o s b) : Lk K g0 H0 g (upd H p ob) σ (ρ.set i s') := by
  obtain ⟨hi, _⟩ := List.getElem?_eq_some_iff.mp hρ
  obtain ⟨us, p1, p2, p3⟩ := hp.some (L.sl i o s hσ hρ)
  have key : ∀ (j : Nat) (t : Sl), (ρ.set i s')[j]? = some t → (j = i ∧ t = s') ∨ (j ≠ i ∧ ρ[j]? = some t) := fun j t h => by
    by_cases hj : j = i
    · subst hj
      rw [List.getElem?_set_self hi] at h
      cases h; exact .inl ⟨rfl, rfl⟩
    · rw [List.getElem?_set_ne (Ne.symm hj)] at h
      exact .inr ⟨hj, h⟩
  have oth : ∀ (j : Nat) (o' : Option V) (t : Sl), j ≠ i → σ[j]? = some o' → ρ[j]? = some t → ∀ b, Own H o' t b → b ≠ p := fun j o' t hj h1 h2 b h3 z => by
    subst z
    exact L.di j i o' o t s b hj h1 h2 h3 hσ hρ hp
  refine ⟨L.w0, L.ex.updNew (L.fr i o s p hσ hρ hp) p2 p3, by simp [L.len], fun j o' t h1 h2 => ?_, fun j o' t b h1 h2 h3 => ?_, fun j k o1 o2 t u b hjk h1 h2 h3 h4 h5 h6 => ?_⟩
  · rcases key j t h2 with ⟨rfl, rfl⟩ | ⟨hj, h2⟩
    · rw [hσ] at h1; cases h1
      exact r
    · exact (L.sl j o' t h1 h2).updO (oth j o' t hj h1 h2)
  · rcases key j t h2 with ⟨rfl, rfl⟩ | ⟨hj, h2⟩
    · rw [hσ] at h1; cases h1
      exact L.fr j o s b hσ hρ (hown b h3)
    · exact L.fr j o' t b h1 h2 (h3.backU (L.sl j o' t h1 h2) (oth j o' t hj h1 h2))
  · rcases key j t h2 with ⟨rfl, rfl⟩ | ⟨hj, h2'⟩
    · rw [hσ] at h1; cases h1
      rcases key k u h5 with ⟨rfl, rfl⟩ | ⟨hk, h5⟩
      · exact hjk rfl
      · exact L.di j k _ o2 s u b hjk hσ hρ (hown b h3) h4 h5 (h6.backU (L.sl k o2 u h4 h5) (oth k o2 u hk h4 h5))
    · clear h2
      have h2 := h2'
      have h3' := h3.backU (L.sl j o1 t h1 h2) (oth j o1 t hj h1 h2)
      rcases key k u h5 with ⟨ek, eu⟩ | ⟨hk, h5⟩
      · subst eu
        rw [ek, hσ] at h4; cases h4
        exact L.di j i o1 _ t s b hj h1 h2 h3' hσ hρ (hown b h6)
      · exact L.di j k o1 o2 t u b hjk h1 h2 h3' h4 h5 (h6.backU (L.sl k o2 u h4 h5) (oth k o2 u hk h4 h5))
/-- a list that no slot owns is frozen -/
theorem NR.frzU {K : PySem.W.Frag} {g : Gh} {H : Hp} {p : Addr} {us : List V} (n1 : g.G p = none) {vs : List V} {rs : List (List D)} (r : NR K g H vs rs) (n : V.ref p ∉ vs) : NR K ⟨upd g.G p (.lst us), g.Dr⟩ H vs rs := by
  have gs : Sub g.G (upd g.G p (.lst us)) := fun b o z => by
    rw [upd_ne (fun y => by rw [y, n1] at z; cases z)]; exact z
  induction r with
  | nil => exact .nil
  | @cons q ws vs ds rs h1 h2 h3 r t ih =>
    have hq : q ≠ p := fun z => n (by rw [z]; exact List.mem_cons_self)
    exact .cons (by show upd g.G p (.lst us) q = none; rw [upd_ne hq]; exact h1) h2 h3 (r.sub gs) (ih fun z => n (List.mem_cons_of_mem _ z))
theorem SlR.frzU {K : PySem.W.Frag} {g : Gh} {H : Hp} {p : Addr} {us : List V} (n1 : g.G p = none) {o : Option V} {s : Sl} (r : SlR K g H o s) (n : ∀ b, Own H o s b → b ≠ p) : SlR K ⟨upd g.G p (.lst us), g.Dr⟩ H o s := by
  have gs : Sub g.G (upd g.G p (.lst us)) := fun b o z => by
    rw [upd_ne (fun y => by rw [y, n1] at z; cases z)]; exact z
  cases r with
  | emp => exact .emp
  | val r => exact .val (r.sub gs)
  | own h1 h2 h3 r => exact .own (by show upd g.G p (.lst us) _ = none; rw [upd_ne (n _ .own)]; exact h1) h2 h3 (r.sub gs)
  | nst h1 h2 h3 r nd na => exact .nst (by show upd g.G p (.lst us) _ = none; rw [upd_ne (n _ .nst)]; exact h1) h2 h3 (r.frzU n1 fun z => n _ (.inn h3 z) rfl) nd na
  | draw h => exact .draw h
  | rng h => exact .rng (gs _ _ h)
  | scr h hl => exact .scr (SqL.sub gs h) hl
theorem Lk.frzU {K : PySem.W.Frag} {g0 g : Gh} {H0 H : Hp} {σ : L2.St} {ρ : Env} (L : Lk K g0 H0 g H σ ρ) {p : Addr} {us : List V} (h : H p = some (.lst us)) (n1 : g.G p = none) (n2 : ¬ g.Dr p) (f0 : H0 p = none)
    (no : ∀ (j : Nat) (o : Option V) (t : Sl) (b : Addr), σ[j]? = some o → ρ[j]? = some t → Own H o t b → b ≠ p) : Lk K g0 H0 ⟨upd g.G p (.lst us), g.Dr⟩ H σ ρ :=
  ⟨L.w0, Ext.freeze L.wf h n1 n2 L.ex f0, L.len, fun j o t h1 h2 => (L.sl j o t h1 h2).frzU n1 fun b hb => no j o t b h1 h2 hb, L.fr, L.di⟩
theorem set_set_eq {ρ : Env} {i : Nat} (a b : Sl) : (ρ.set i a).set i b = ρ.set i b := List.set_set ..
/-- a list of the def's own is frozen: from here on it never changes -/
theorem Lk.frz {K : PySem.W.Frag} {g0 g : Gh} {H0 H : Hp} {σ : L2.St} {ρ : Env} (L : Lk K g0 H0 g H σ ρ) (i : Nat) : ∃ g', Lk K g0 H0 g' H σ (PL.frz i ρ) ∧ Sub g.G g'.G := by
  unfold PL.frz PL.frzA
  split
  · rename_i ds e
    obtain ⟨o, ho, r⟩ := L.at e
    cases r with
    | @own a vs _ k1 k2 k3 r =>
      have f0 : H0 a = none := L.fr i _ _ a ho e .own
      have gs : Sub g.G (upd g.G a (.lst vs)) := fun b o z => by
        rw [upd_ne (fun y => by rw [y, k1] at z; cases z)]; exact z
      have hi := (List.getElem?_eq_some_iff.mp e).1
      have e1 : (ρ.set i Sl.emp)[i]? = some .emp := by rw [List.getElem?_set_self hi]
      have L1 : Lk K g0 H0 g H σ (ρ.set i .emp) := L.less e (fun _ _ => .emp) fun _ _ _ z => nomatch z
      have L2 := L1.frzU k3 k1 k2 f0 fun j o t b h1 h2 h3 z => by
        subst z
        by_cases hj : j = i
        · subst hj; rw [e1] at h2; cases h2; cases h3
        · rw [List.getElem?_set_ne (Ne.symm hj)] at h2
          exact L.di j i o _ t _ b hj h1 h2 h3 ho e .own
      have L3 := L2.less (s' := .val (.list ds)) e1 (fun o h => by
        rw [ho] at h; cases h
        exact .val (.lst upd_same (r.sub gs))) fun _ _ _ z => nomatch z
      rw [set_set_eq] at L3
      exact ⟨_, L3, gs⟩
  · rename_i rs e
    obtain ⟨o, ho, r⟩ := L.at e
    cases r with
    | @nst a vs _ k1 k2 k3 r nd na =>
      have hi := (List.getElem?_eq_some_iff.mp e).1
      have e1 : (ρ.set i Sl.emp)[i]? = some .emp := by rw [List.getElem?_set_self hi]
      have no : ∀ p, Own H (some (.ref a)) (.nst rs) p → ∀ (j : Nat) (o : Option V) (t : Sl) (b : Addr), σ[j]? = some o → (ρ.set i Sl.emp)[j]? = some t → Own H o t b → b ≠ p := fun p hp j o t b h1 h2 h3 z => by
        subst z
        by_cases hj : j = i
        · subst hj; rw [e1] at h2; cases h2; cases h3
        · rw [List.getElem?_set_ne (Ne.symm hj)] at h2
          exact L.di j i o _ t _ b hj h1 h2 h3 ho e hp
      have L1 : Lk K g0 H0 g H σ (ρ.set i .emp) := L.less e (fun _ _ => .emp) fun _ _ _ z => nomatch z
      -- the rows
      have rows : ∀ (ws : List V) (rs' : List (List D)) (g1 : Gh), (∀ w ∈ ws, w ∈ vs) → ws.Nodup → Lk K g0 H0 g1 H σ (ρ.set i .emp) → NR K g1 H ws rs' → g1.G a = none → ¬ g1.Dr a → ∃ g2, Lk K g0 H0 g2 H σ (ρ.set i .emp) ∧ Sub g1.G g2.G ∧ RpL K g2.G ws (rs'.map .list) ∧ g2.G a = none ∧ ¬ g2.Dr a := by
        intro ws
        induction ws with
        | nil =>
          intro rs' g1 _ _ M nr n1 n2
          cases nr
          exact ⟨g1, M, Sub.refl _, .nil, n1, n2⟩
        | cons w ws ih =>
          intro rs' g1 hw hn M nr n1 n2
          cases nr with
          | @cons q _ us ds rs'' h1 h2 h3 rr t =>
            have hq : Own H (some (.ref a)) (.nst rs) q := .inn k3 (hw _ List.mem_cons_self)
            have hqa : q ≠ a := fun z => na (by rw [← z]; exact hw _ List.mem_cons_self)
            have M1 := M.frzU h3 h1 h2 (L.fr i _ _ q ho e hq) (no q hq)
            have gs : Sub g1.G (upd g1.G q (.lst us)) := fun b o z => by
              rw [upd_ne (fun y => by rw [y, h1] at z; cases z)]; exact z
            rw [List.nodup_cons] at hn
            obtain ⟨g2, m1, m2, m3, m4, m5⟩ := ih rs'' ⟨upd g1.G q (.lst us), g1.Dr⟩ (fun w h => hw w (List.mem_cons_of_mem _ h)) hn.2 M1 (t.frzU h1 hn.1) (by show upd g1.G q (.lst us) a = none; rw [upd_ne (Ne.symm hqa)]; exact n1) n2
            refine ⟨g2, m1, gs.trans m2, ?_, m4, m5⟩
            rw [List.map_cons]
            exact .cons (.lst (m2 _ _ upd_same) ((rr.sub gs).sub m2)) m3
      obtain ⟨g2, m1, m2, m3, m4, m5⟩ := rows vs rs g (fun _ h => h) nd L1 r k1 k2
      have M2 := m1.frzU k3 m4 m5 (L.fr i _ _ a ho e .nst) (no a .nst)
      have gs : Sub g2.G (upd g2.G a (.lst vs)) := fun b o z => by
        rw [upd_ne (fun y => by rw [y, m4] at z; cases z)]; exact z
      have L3 := M2.less (s' := .val (.list (rs.map .list))) e1 (fun o h => by
        rw [ho] at h; cases h
        exact .val (.lst upd_same (m3.sub gs))) fun _ _ _ z => nomatch z
      rw [set_set_eq] at L3
      exact ⟨_, L3, m2.trans gs⟩
  · exact ⟨g, L, Sub.refl _⟩
theorem js_frz (i : Nat) (h : JS X κ W st t) : JS X κ W st (s_frz i t) := PS.weak h fun E σ H ⟨g0, H0, g, ρ, P, L, q, S⟩ => by
  obtain ⟨g', L', s⟩ := L.frz i
  exact ⟨g0, H0, g', _, P, L', q, S.up s⟩
end
end PL

namespace PL
open PySem PySem.Spec PyProof.Rows L2
section
variable {X : Cx} {κ : Cls} {W : XK} {pos : Pos} {tg a b c e iter : Expr} {ta tb tc te : uE} {ti : uI} {ca : uC} {t u : uS} {body : List Stmt}

/-! ### lists of the def's own are changed -/
theorem ownOf_some {Q : List D → Prop} {o : Option Sl} (h : ownOf Q o) : ∃ ds, o = some (.own ds) ∧ Q ds := by
  unfold ownOf at h
  split at h
  · exact ⟨_, rfl, h⟩
  · exact h.elim
theorem Lk.own {K : PySem.W.Frag} {g0 g : Gh} {H0 H : Hp} {σ : L2.St} {ρ : Env} (L : Lk K g0 H0 g H σ ρ) {i : Nat} {ds : List D} (h : ρ[i]? = some (.own ds)) :
    ∃ p vs, σ[i]? = some (some (.ref p)) ∧ H0 p = none ∧ g.G p = none ∧ ¬ g.Dr p ∧ H p = some (.lst vs) ∧ RpL K g.G vs ds := by
  obtain ⟨o, e, r⟩ := L.at h
  cases r with
  | own k1 k2 k3 r => exact ⟨_, _, e, L.fr i _ _ _ e h .own, k1, k2, k3, r⟩
/-- the list in slot i now holds others -/
theorem Lk.change {K : PySem.W.Frag} {g0 g : Gh} {H0 H : Hp} {σ : L2.St} {ρ : Env} (L : Lk K g0 H0 g H σ ρ) {i : Nat} {p : Addr} {ds ds' : List D} {vs' : List V} (h : ρ[i]? = some (.own ds)) (hσ : σ[i]? = some (some (.ref p)))
    (n0 : H0 p = none) (n1 : g.G p = none) (n2 : ¬ g.Dr p) (r : RpL K g.G vs' ds') : Lk K g0 H0 g (upd H p (.lst vs')) σ (ρ.set i (.own ds')) := by
  refine L.chg hσ h .own (.own n1 n2 upd_same r) fun b hb => ?_
  cases hb
  exact .own
theorem js_app (i : Nat) {x : Str} {apos cpos p1 : Pos} (h : JE X κ W e te) (hN : X.N[i]? = some x := by rfl) (hv : Vis X.env.scope x := by first | exact Or.inl rfl | exact Or.inr (Or.inl rfl) | exact Or.inr (Or.inr rfl)) (hd : (x == ("__debug__" : Str)) = false := by decide)
    (hcd : (x == ("__classdict__" : Str)) = false := by decide) (hse : starEach [e] X.env = (false, eval e X.env) :: starEach [] X.env := by rfl)
    (hbase : attributeBase (.Name x p1) "append" X.env (eval (.Name x p1) X.env) = eval (.Name x p1) X.env := by rfl)
    (hfew : ((backTo cpos (starEach [e] X.env)).all (fun x => !x.1) && (backToKw cpos (keywordEach [] X.env)).all (fun x => x.1.isSome) && decide (([e] : List Expr).length + ([] : List Keyword).length + (if ([] : List Keyword).isEmpty then 0 else 1) < 30)) = true := by rfl)
    (hline : (apos.endLine == cpos.line) = true := by rfl) (hpl : (backTo cpos (starEach [] X.env)).any (·.1) = false := by rfl) (hs : swapsWith (.Call (.Attribute (.Name x p1) "append" apos) [e] [] cpos) none pos.line X.env = pure false := by rfl) :
    JS X κ W (.Expr (.Call (.Attribute (.Name x p1) "append" apos) [e] [] cpos) pos) (s_app i te) :=
  PS.weak (ps_expr (pe_bm PySem.F.plainAttrs_list PySem.F.slot_list_append PySem.F.type_list_append mt_append (pe_var hN hv hd hcd) (pa_cons h pa_nil hse) hbase hfew hline hse hpl) hs) fun E σ H ⟨g0, H0, g, ρ, P, L, q, S⟩ => by
  obtain ⟨ds, hρ, q⟩ := ownOf_some q
  obtain ⟨p, vs, hσ, n0, n1, n2, hp, r⟩ := L.own hρ
  refine ⟨_, hσ, .inl ⟨rfl, _, SqL.of hp⟩, g0, H0, g, ρ, _, P.ex, L, q, fun g1 H1 v d e1 rv q1 => ?_, S.ex⟩
  obtain ⟨hlen, q1⟩ := q1
  have m := SlR.ext e1 (SlR.own n1 n2 hp r)
  have hp1 := e1.keep _ _ hp n2
  cases m with
  | own m1 m2 m3 mr =>
    refine ⟨p, vs, v, rfl, rfl, hp1, by rw [r.len]; exact Nat.lt_of_lt_of_le hlen ln_size, ?_⟩
    exact S.nx g1 _ σ _ ((L.ext e1).change hρ hσ n0 m1 m2 ((r.sub e1.gg).append (.cons rv .nil))) e1.gg q1

/-- xs[k] = v -/
theorem js_sub (i : Nat) {x : Str} {p1 tpos : Pos} {tk : uE} (hv : JE X κ W b tb) (hk : JB X κ W a tk) (hN : X.N[i]? = some x := by rfl) (hvis : Vis X.env.scope x := by first | exact Or.inl rfl | exact Or.inr (Or.inl rfl) | exact Or.inr (Or.inr rfl)) (hd : (x == ("__debug__" : Str)) = false := by decide)
    (hcd : (x == ("__classdict__" : Str)) = false := by decide)
    (ha : ∀ v, assign (.Subscript (.Name x p1) a tpos) X.env v = (do
      let ov ← holding [v] (eval (.Name x p1) X.env)
      let iv ← holding [v, ov] (eval a X.env)
      standAt tpos
      holding [v, ov, iv] (setItem ov iv v)
      release [v, ov, iv] []) := by intro _; rfl)
    (hs : swapsWithSole [.Subscript (.Name x p1) a tpos] b pos.line X.env = pure false := by rfl) (hw : swappedStores [.Subscript (.Name x p1) a tpos] b X.env = pure none := by rfl)
    (h1 : (assignEach [.Subscript (.Name x p1) a tpos] X.env).map (·.2) = [assign (.Subscript (.Name x p1) a tpos) X.env] := by rfl) :
    JS X κ W (.Assign [.Subscript (.Name x p1) a tpos] b pos) (s_sub i tk tb) :=
  PS.weak (ps_asg hv (pg_sub (pe_var hN hvis hd hcd) hk set_list ha) hs hw h1) fun E σ H ⟨g0, H0, g, ρ, P, L, q, S⟩ => by
  refine ⟨g0, H0, g, ρ, _, P.ex, L, q, fun g1 H1 v d e1 rv q1 => ?_, S.ex⟩
  obtain ⟨ds, hρ, q1⟩ := ownOf_some q1
  have L1 := L.ext e1
  obtain ⟨p, vs, hσ, n0, n1, n2, hp, r⟩ := L1.own hρ
  refine ⟨_, hσ, g0, H0, g1, ρ, _, P.ex, L1, q1, fun g2 H2 kv kd e2 rk q2 => ?_, S.ex⟩
  obtain ⟨z, rfl, q2⟩ := nOf_int rk q2
  have m := SlR.ext e2 (SlR.own n1 n2 hp r)
  have hp2 := e2.keep _ _ hp n2
  cases m with
  | own m1 m2 m3 mr =>
    have fin : ∀ j, ixN vs.length z = some j → P.nx (ρ.set i (.own (ds.set j d))) → rSetL (.ref p) (.int z) v H2 (fun H3 => E.nx σ H3) := fun j hj hP =>
      ⟨p, vs, z, j, rfl, rfl, hp2, hj, S.nx g2 _ σ _ ((L1.ext e2).change hρ hσ n0 m1 m2 ((r.sub e2.gg).set (Rp.sub e2.gg rv) j)) (e1.gg.trans e2.gg) hP⟩
    unfold ixOf at q2
    by_cases hz : 0 ≤ z
    · rw [if_pos hz] at q2
      refine fin z.toNat ?_ q2.2
      unfold ixN
      rw [if_pos hz, r.len, if_pos q2.1]
    · rw [if_neg hz] at q2
      refine fin (z + ds.length).toNat ?_ q2.2
      unfold ixN
      rw [if_neg hz, r.len, if_pos q2.1]

/-! ### loops -/
theorem js_for {sl : List Nat} {G : uG} (hp : PassesOwn (model X.prog X.w) X.A X.env X.xe) (hc : X.calm = true) (hi : JI X κ W tg iter ti) (hg : JG X tg sl G) (hb : JSs X κ W body t) (hs : ∀ x, foldedSetIterable iter X.env x = pure x := by intro _; rfl) :
    JS X κ W (.For tg iter body [] pos) (s_for ti G t) := PS.weak (ps_for hp hc hi hg hb hs) fun E σ H ⟨g0, H0, g, ρ, P, L, q, S⟩ => by
  refine ⟨g0, H0, g, ρ, _, P.ex, L, q, fun g1 H1 J ds e1 wk q1 => ?_, S.ex⟩
  refine ⟨fun i m σ H => m = ds.length - i ∧ i ≤ ds.length ∧ ∃ gi ρi, Lk X.K g0 H0 gi H σ ρi ∧ Sub g1.G gi.G ∧ forL G t P (ds.drop i) ρi, ⟨ds.length, by simp, Nat.zero_le _, g1, ρ, L.ext e1, Sub.refl _, q1⟩, ?_⟩
  rintro i m σi Hi ⟨rfl, hi, gi, ρi, Li, si, q⟩
  obtain ⟨k1, k2⟩ := wk gi Hi Li.wf si
  by_cases hlt : i < ds.length
  · have hd : ds[i]? = some ds[i] := List.getElem?_eq_getElem hlt
    obtain ⟨hgo, hy⟩ := k1 i _ hd
    rw [drop_cons hd] at q
    refine .inr ⟨hgo, fun σ' H' => ∃ g' ρ', Lk X.K g0 H0 g' H' σ' ρ' ∧ Sub g1.G g'.G ∧ forL G t P (ds.drop (i + 1)) ρ', fun σ' H' ⟨g', ρ', z⟩ => ⟨ds.length - (i + 1), by omega, rfl, hlt, g', ρ', z⟩, fun xv H2 y2 => ?_⟩
    obtain ⟨g2, e2, rx⟩ := hy xv H2 y2
    refine ⟨g0, H0, g2, ρi, _, _, Li.ext e2, rx, q, fun σ' ρ' L' _ q' => ?_⟩
    have s2 : Sub g1.G g2.G := si.trans e2.gg
    exact ⟨g0, H0, g2, ρ', _, L', q', fun g' H' σ'' ρ'' L'' s'' q'' => ⟨g', ρ'', L'', s2.trans s'', q''⟩, S.rt, fun g' H' σ'' ρ'' L'' s'' q'' => S.nx g' H' σ'' ρ'' L'' ((e1.gg.trans s2).trans s'') q'',
      fun g' H' σ'' ρ'' L'' s'' q'' => ⟨g', ρ'', L'', s2.trans s'', q''⟩, S.ex⟩
  · have ei : i = ds.length := by omega
    subst ei
    rw [List.drop_length] at q
    exact .inl ⟨k2, S.nx gi Hi σi ρi Li (e1.gg.trans si) q⟩
theorem js_while (hp : PassesOwn (model X.prog X.w) X.A X.env X.xe) (hc : JC X κ W c ca) (hb : JSs X κ W body t) : JS X κ W (.While c body [] pos) (s_while ca t) := PS.weak (ps_while hp hc hb) fun E σ H ⟨g0, H0, g, ρ, P, L, q, S⟩ => by
  obtain ⟨n, q⟩ := q
  refine ⟨fun m σ H => ∃ gi ρi, Lk X.K g0 H0 gi H σ ρi ∧ Sub g.G gi.G ∧ whN ca t P m ρi, ⟨n, g, ρ, L, Sub.refl _, q⟩, ?_⟩
  rintro m σi Hi ⟨gi, ρi, Li, si, q⟩
  cases m with
  | zero => exact q.elim
  | succ m =>
    refine ⟨g0, H0, gi, ρi, _, P.ex, Li, q, fun g1 H1 k e1 q1 => ?_, S.ex⟩
    have s1 : Sub g.G g1.G := si.trans e1.gg
    cases k with
    | true =>
      simp only [if_true] at q1 ⊢
      refine ⟨fun σ' H' => ∃ g' ρ', Lk X.K g0 H0 g' H' σ' ρ' ∧ Sub g.G g'.G ∧ whN ca t P m ρ', fun σ' H' ⟨g', ρ', z⟩ => ⟨m, Nat.lt_succ_self _, g', ρ', z⟩, ?_⟩
      exact ⟨g0, H0, g1, ρi, _, Li.ext e1, q1, fun g' H' σ'' ρ'' L'' s'' q'' => ⟨g', ρ'', L'', s1.trans s'', q''⟩, S.rt, fun g' H' σ'' ρ'' L'' s'' q'' => S.nx g' H' σ'' ρ'' L'' (s1.trans s'') q'',
        fun g' H' σ'' ρ'' L'' s'' q'' => ⟨g', ρ'', L'', s1.trans s'', q''⟩, S.ex⟩
    | false =>
      simp only [Bool.false_eq_true, if_false] at q1 ⊢
      exact S.nx g1 H1 σi ρi (Li.ext e1) s1 q1

/-! ### raise, try -/
theorem js_raise {v : Exn} {C : Value} {tm : L2.St → Hp → XK → Prop} (hc : X.calm = true) (tk : Takes X (fun cls d _ H => W cls d H)) (hm : L2.PMk X e tm) (hr : ∀ σ H Q g0 H0 g ρ, Lk X.K g0 H0 g H σ ρ → (∀ c d g' H', Ext X.K g0 H0 g' H' → XR κ v c d H' → Q c d H') → tm σ H Q) :
    JS X κ W (.Raise (some e) none pos) (s_raise v) := PS.weak (ps_raise hc tk hm) fun E σ H ⟨g0, H0, g, ρ, P, L, q, S⟩ =>
  hr σ H _ g0 H0 g ρ L fun c d g' H' ee x => S.ex v g' H' c d ee x q
/-- raise Malformed('..') -/
theorem js_raiseM {x m : Str} {j : Nat} {p p2 cp : Pos} {C : Addr} (hc : X.calm = true) (tk : Takes X (fun cls d _ H => W cls d H)) (q : PySem.W.excIn X.K C [.type "ValueError", .type "Exception", .type "BaseException", .type "object"] "ValueError.__new__" = true) (gC : X.mg x = some (.ref C)) (kC : PySem.W.keepIn X.K (.ref C) = true)
    (r : Raises X (.ref C)) (hg : Gl X x) (hκ : κ.m = some (.ref C)) (hdb : (x == ("__debug__" : Str)) = false := by decide) :
    JS X κ W (.Raise (some (.Call (.Name x p) [.Constant (.str m) j p2] [] cp)) none pos) (s_raise .malformed) :=
  js_raise (C := .ref C) hc tk (pmk_own PySem.F.excBase_ValueError q gC kC r hg hdb) fun σ H Q g0 H0 g ρ L h => h _ _ g H L.ex ⟨hκ, rfl⟩
theorem takes_len {W1 W2 : WX} (tk : Takes X W1) (h : ∀ c d (σ : L2.St) H, σ.length = X.N.length → W2 c d σ H → W1 c d σ H) : Takes X W2 := by
  intro u s' hx
  obtain ⟨a, B, sI, pins, σ, H, cls, d, e, I, nb, up, sky, na, os, ag, w⟩ := hx
  exact tk u s' ⟨a, B, sI, pins, σ, H, cls, d, e, I, nb, up, sky, na, os, ag, h _ _ _ _ I.len w⟩
theorem lk_emps {K : PySem.W.Frag} {g0 g : Gh} {H0 H : Hp} {σ : L2.St} {n : Nat} (w0 : WFg K g0 H0) (e : Ext K g0 H0 g H) (h : σ.length = n) : Lk K g0 H0 g H σ (emps n) := by
  have key : ∀ (j : Nat) (t : Sl), (emps n)[j]? = some t → t = .emp := fun j t q => by
    unfold emps at q
    obtain ⟨hi, q⟩ := List.getElem?_eq_some_iff.mp q
    simpa using q.symm
  refine ⟨w0, e, by simp [emps, h], fun j o t h1 h2 => ?_, fun j o t b h1 h2 h3 => ?_, fun j k o o' t u b hjk h1 h2 h3 h4 h5 h6 => ?_⟩
  · rw [key j t h2]; exact .emp
  · rw [key j t h2] at h3; cases h3
  · rw [key j t h2] at h3; cases h3
theorem js_tryM {x : Str} {np pos' : Pos} {C : Value} {b₀ : Stmt} {suite : List Stmt} (hs : X.stack = X.env :: X.outer) (hf : X.env.frame = some X.env.locals) (hn : Names X x C) (tk : Takes X (fun cls d _ H => W cls d H)) (hκ : κ.m = some C)
    (hyes : PySem.W.exmOne X.K C C = some true) (hr : ∀ c, κ.r = some c → PySem.W.exmOne X.K c C = some false) (hn2 : ∀ c, κ.n = some c → PySem.W.exmOne X.K c C = some false)
    (hb : ∀ (W' : XK) (pn : List (Addr × Obj)) (xe : Value → Shared → Prop), Takes (X.tr pn xe) (fun cls d _ H => W' cls d H) → PassesOwn (model X.prog X.w) X.A X.env xe → JSs (X.tr pn xe) κ W' body t)
    (hsu : ∀ (a : Addr) (pn : List (Addr × Obj)), JSs (X.suite a pn) κ E0 (b₀ :: suite) u) :
    JS X κ W (.Try body [.ExceptHandler (some (.Name x np)) none (b₀ :: suite) pos'] [] [] pos) (s_tryM X.N.length t u) := by
  refine PS.weak (ps_try_only (tb := fun W1 => tS X.K κ (fun cls d H => ∀ σ : L2.St, σ.length = X.N.length → W1 cls d σ H) t) (ts := fun _ _ _ => tS X.K κ E0 u) hs hf hn tk
    (fun W1 pn xe tk1 po => hb _ pn xe (takes_len tk1 fun c d σ H hl h => h σ hl) po) (fun a oe cls d pn _ _ => hsu a ((a, oe) :: pn))) fun E σ H ⟨g0, H0, g, ρ, P, L, q, S⟩ => ?_
  refine ⟨g0, H0, g, ρ, _, L, q, S.nx, S.rt, S.bk, S.ct, fun ex g' H' c d ee xr hx σ' hσ => ?_⟩
  have other : PySem.W.exmOne X.K c C = some false → P.ex ex → wOnly X.K C (fun _ _ _ => tS X.K κ E0 u) (fun cls d _ H => W cls d H) E c d σ' H' := fun h1 hp =>
    ⟨false, h1, ⟨fun z => (Bool.noConfusion z), fun _ => S.ex ex g' H' c d ee xr hp⟩⟩
  cases ex with
  | malformed =>
    obtain ⟨k1, k2⟩ := xr
    rw [hκ] at k1; cases k1
    refine ⟨true, hyes, ⟨fun _ a ha => ?_, fun z => (Bool.noConfusion z)⟩⟩
    exact ⟨g0, H0, g', emps X.N.length, _, lk_emps L.w0 ee hσ, hx, fun _ _ _ _ _ _ z => z.elim, S.rt, fun _ _ _ _ _ _ z => z.elim, fun _ _ _ _ _ _ z => z.elim, lx_none⟩
  | refused r => exact other (hr c xr.1) hx
  | noText i => exact other (hn2 c xr.1) hx

/-! ### a def -/
theorem ArgR.len {K : PySem.W.Frag} {g : Gh} : ∀ {s : List Bool} {vs : List V} {ds : List D}, ArgR K g s vs ds → vs.length = s.length ∧ ds.length = s.length
  | _, _, _, .nil => ⟨rfl, rfl⟩
  | _, _, _, .val _ t => ⟨by rw [List.length_cons, List.length_cons, (ArgR.len t).1], by rw [List.length_cons, List.length_cons, (ArgR.len t).2]⟩
  | _, _, _, .draw _ t => ⟨by rw [List.length_cons, List.length_cons, (ArgR.len t).1], by rw [List.length_cons, List.length_cons, (ArgR.len t).2]⟩
theorem startL_len : ∀ {s : List Bool} {ds : List D}, ds.length = s.length → (startL s ds).length = s.length
  | [], [], _ => rfl
  | true :: s, _ :: ds, h => by show (startL s ds).length + 1 = s.length + 1; rw [startL_len (by simpa using h)]
  | false :: s, _ :: ds, h => by show (startL s ds).length + 1 = s.length + 1; rw [startL_len (by simpa using h)]
theorem startL_at {K : PySem.W.Frag} {g : Gh} {H : Hp} : ∀ {s : List Bool} {vs : List V} {ds : List D}, ArgR K g s vs ds → ∀ (i : Nat) (v : V) (t : Sl), vs[i]? = some v → (startL s ds)[i]? = some t → SlR K g H (some v) t ∧ isOwn t = false
  | _, _, _, .nil, i, v, t, h1, h2 => by simp at h1
  | _, _, _, .val r u, 0, v, t, h1, h2 => by
    have h1 : _ = v := Option.some.inj h1
    have h2 : _ = t := Option.some.inj h2
    subst h1 h2
    exact ⟨.val r, rfl⟩
  | _, _, _, .draw r u, 0, v, t, h1, h2 => by
    have h1 : _ = v := Option.some.inj h1
    have h2 : _ = t := Option.some.inj h2
    subst h1 h2
    exact ⟨.draw r, rfl⟩
  | _, _, _, .val r u, i + 1, v, t, h1, h2 => startL_at u i v t h1 h2
  | _, _, _, .draw r u, i + 1, v, t, h1, h2 => startL_at u i v t h1 h2
theorem lk_start {K : PySem.W.Frag} {g : Gh} {H : Hp} {s : List Bool} {vs : List V} {ds : List D} {N : List Str} (w : WFg K g H) (r : ArgR K g s vs ds) : Lk K g H g H (L2.start N vs) (PL.start s N.length ds) := by
  have hl := r.len
  have key : ∀ (j : Nat) (o : Option V) (t : Sl), (L2.start N vs)[j]? = some o → (PL.start s N.length ds)[j]? = some t → SlR K g H o t ∧ isOwn t = false := fun j o t h1 h2 => by
    unfold L2.start at h1
    unfold PL.start at h2
    by_cases hj : j < s.length
    · rw [List.getElem?_append_left (by rw [List.length_map, hl.1]; exact hj)] at h1
      rw [List.getElem?_append_left (by rw [startL_len hl.2]; exact hj)] at h2
      rw [List.getElem?_map] at h1
      cases q : vs[j]? with
      | none => rw [q] at h1; cases h1
      | some v =>
        rw [q] at h1
        cases h1
        exact startL_at r j v t q h2
    · rw [List.getElem?_append_right (by rw [startL_len hl.2]; omega)] at h2
      obtain ⟨hi, q⟩ := List.getElem?_eq_some_iff.mp h2
      have : t = .emp := by simpa using q.symm
      subst this
      exact ⟨.emp, rfl⟩
  refine ⟨w, Ext.refl w, ?_, fun j o t h1 h2 => (key j o t h1 h2).1, fun j o t b h1 h2 h3 => ?_, fun j k o o' t u b hjk h1 h2 h3 h4 h5 h6 => ?_⟩
  · unfold L2.start PL.start
    rw [List.length_append, List.length_append, List.length_map, List.length_replicate, List.length_replicate, startL_len hl.2, hl.1]
  · have := h3.is; rw [(key j _ t h1 h2).2] at this; cases this
  · have := h3.is; rw [(key j _ t h1 h2).2] at this; cases this
end
section
variable {P : Program} {w : World} {K : PySem.W.Frag} {mg : Str → Option Value} {base : Heap} {κ : Cls}
theorem j_def {x qual : Str} {st : Stmt} {f : Addr} {fd : FuncData} {N ps : List Str} {k : Nat} {sig : List Bool} {T : uS} (F : Fun K x qual st f fd) (S : FnScope N ps (defScope st)) (hl : sig.length = ps.length)
    (hb : ∀ (cdv : Value) (A : Around) (outer : List PySem.Env) (s : Shared) (H : Hp) (E : XK), Room k (A.deeper (envOfC qual (defScope st) s.heap.objs.size f cdv)) → JSs (cxOf (L2.CX P w) P w K mg base N qual (defScope st) f cdv A outer s H E) κ E (defBody st) T) :
    FnOk P w K mg base (L2.CX P w) (k + 1) f fd ps (spP K κ sig (conOf sig N.length T)) := by
  refine F.okX S (fun vs H Q E h => ?_) (fun cdv A outer s H vs Q E hr h => ?_)
  · obtain ⟨g, ds, P, x, w, r, _⟩ := h
    rw [r.len.1, hl]
  · obtain ⟨g, ds, P', x, wf, r, q, hQ, hx⟩ := h
    refine ⟨_, hb cdv A outer s H E hr, g, H, g, _, _, lk_start wf r, q.2, fun g' H' σ' ρ' L _ z => ?_, fun g' H' v d e r z => hQ g' H' v d e r z, fun _ _ _ _ _ _ z => z.elim, fun _ _ _ _ _ _ z => z.elim, hx⟩
    exact hQ g' H' _ _ L.ex .non z
end
end PL

namespace PL
open PySem PySem.Spec PyProof.Rows L2
/-! ### the draw -/
section
variable {K : PySem.W.Frag} {σ : L2.St} {H H1 : Hp} {a l : Addr} {Q : VK}
theorem r_ix {i : Nat} {k : Int} {j : Nat} {xs : List V} {v : V} (hσ : σ[i]? = some (some (.ref a))) (h : SqL K H a xs) (hk : k = (j : Int)) (hv : xs[j]? = some v) (q : Q v H) : L2.tOp (rIxL K) (L2.tVar i) (L2.tC (.int k)) σ H Q :=
  ⟨.ref a, hσ, a, xs, k, v, rfl, rfl, h, at_of hk hv, q⟩
theorem r_st {i : Nat} {k : Int} {j : Nat} {xs : List V} {v : V} {R : L2.St → Hp → Prop} (hσ : σ[i]? = some (some (.ref a))) (h : H a = some (.lst xs)) (hk : k = (j : Int)) (hv : j < xs.length) (q : R σ (upd H a (.lst (xs.set j v)))) : L2.gSub (L2.tVar i) (L2.tC (.int k)) rSetL v σ H R := by
  refine ⟨.ref a, hσ, a, xs, k, j, rfl, rfl, h, ?_, q⟩
  unfold ixN
  subst hk
  rw [if_pos (by omega), if_pos (by omega), Int.toNat_natCast]
theorem same_upd {a : Addr} {o : HO} (h : H a = some o) : H = upd H a o := by
  funext b
  unfold upd
  split
  · rename_i e; rw [e, h]
  · rfl
/-- a draw's list is changed -/
theorem Ext.drawn {g : Gh} (w : WFg K g H) {o : HO} (hd : g.Dr a) (ok : DrOk K g.G (upd H a o) a) : Ext K g H g (upd H a o) := by
  have na := (w.dr a hd).1
  refine ⟨fun _ _ h => h, fun _ h => h, fun b u hb hn => ?_, fun _ h => .inl h, fun _ h => .inl h, fun b u hb => ?_, fun b hb => ?_⟩
  · rw [upd_ne (show b ≠ a from fun z => hn (by rw [z]; exact hd))]; exact hb
  · rw [upd_ne (show b ≠ a from fun z => by rw [z, na] at hb; cases hb)]; exact w.sub b u hb
  · by_cases hba : b = a
    · subst hba; exact ⟨na, ok⟩
    · obtain ⟨n, l, ns, p, c, s, e, r⟩ := w.dr b hb
      exact ⟨n, l, ns, p, c, s, by rw [upd_ne hba]; exact e, r⟩
end
section
variable {P : Program} {w : World} {K : PySem.W.Frag} {mg : Str → Option Value} {base : Heap} {κ : Cls}
/-- the reading of _law_take's body, in parts -/
abbrev tkInt : List V → Hp → VK → Prop := fun xs H Q => (∃ i, xs = [.int i] ∧ Q (.int i) H) ∨ ∃ k, xs = [.bl k] ∧ Q (.int (if k then 1 else 0)) H
abbrev tkLen (K : PySem.W.Frag) : List V → Hp → VK → Prop := fun xs H Q => ∃ p ys, xs = [.ref p] ∧ (SqL K H p ys ∨ SqT K H p ys) ∧ Q (.int ys.length) H
abbrev tkG (K : PySem.W.Frag) (k : Int) : L2.TE := L2.tOp (rIxL K) (L2.tVar 0) (L2.tC (.int k))
abbrev tkS (k : Int) : L2.TG := L2.gSub (L2.tVar 0) (L2.tC (.int k)) rSetL
abbrev tkBack (K : PySem.W.Frag) : L2.TS := L2.tSeq (L2.tAsg (L2.tOp (rI (fun _ j => 0 < j) fun i j => .int (i % j)) (L2.tCB tkInt (L2.tCons (tkG K 2) L2.tNil)) (L2.tVar 1)) (L2.gName 2))
  (L2.tSeq (L2.tAsg (L2.tOp (rI CDivN fun i j => .int (i.fdiv j)) (tkG K 2) (L2.tVar 1)) (tkS 2)) (L2.tRet (L2.tVar 2)))
abbrev tkMid (K : PySem.W.Frag) : L2.TS := L2.tIfS (L2.tTest (L2.tOp rEq (tkG K 2) (L2.tC (.int 0))))
  (L2.tSeq (L2.tAsg (L2.tOp (rI (fun _ j => 0 < j) fun i j => .int (i % j)) (L2.tCB tkInt (L2.tCons (L2.tOp (rI0 fun i j => .int (i + j)) (L2.tOp (rI CMul fun i j => .int (i * j)) (tkG K 3) (L2.tC (.int 48271))) (L2.tC (.int 11))) L2.tNil)) (L2.tC (.int 2147483647))) (tkS 3))
    (L2.tAsg (tkG K 3) (tkS 2))) L2.tNext
abbrev tkIn (K : PySem.W.Frag) : L2.TS := L2.tSeq (L2.tAsg (L2.tOp (rI0 fun i j => .int (i + j)) (tkG K 1) (L2.tC (.int 1))) (tkS 1))
  (L2.tSeq (L2.tIfS (L2.tTest (L2.tOp (rI0 fun i j => .bl (decide (i < j))) (tkG K 1) (L2.tCB (tkLen K) (L2.tCons (tkG K 0) L2.tNil))))
      (L2.tAsg (L2.tOp (rIxL K) (tkG K 0) (tkG K 1)) (tkS 2)) L2.tNext) (tkMid K))
abbrev tkAll (K : PySem.W.Frag) : L2.TS := L2.tSeq (L2.tIfS (L2.tTest (L2.tOp rEq (tkG K 2) (L2.tC (.int 0)))) (tkIn K) L2.tNext) (tkBack K)
theorem take_read {D : L2.Ends} {a l : Addr} {ns : List Int} {n : Int} {H : Hp} {y : Option V} (hn : 0 < n) (hn2 : n < 1000000000) (hal : l ≠ a) (hl : H l = some (.lst (ns.map V.int))) (h0 : ∀ i, i ∈ ns → 0 ≤ i)
    (fin : ∀ p c s r : Int, -1 ≤ p → 0 ≤ c → 0 ≤ s → s < 2147483647 → 0 ≤ r → r < n → D.rt (.int r) (upd H a (.lst [.ref l, .int p, .int c, .int s]))) :
    ∀ p c s : Int, -1 ≤ p → 0 ≤ c → 0 ≤ s → s < 2147483647 → tkAll K D [some (.ref a), some (.int n), y] (upd H a (.lst [.ref l, .int p, .int c, .int s])) := by
  -- behind the refill
  have back : ∀ p c s : Int, -1 ≤ p → 0 ≤ c → 0 ≤ s → s < 2147483647 → tkBack K D [some (.ref a), some (.int n), y] (upd H a (.lst [.ref l, .int p, .int c, .int s])) := by
    intro p c s h1 h2 h3 h4
    refine r_ix (j := 2) rfl (SqL.of upd_same) rfl rfl (.inl ⟨c, rfl, .int n, rfl, c, n, rfl, rfl, hn, ?_⟩)
    refine r_ix (j := 2) rfl (SqL.of upd_same) rfl rfl ⟨.int n, rfl, c, n, rfl, rfl, ⟨by omega, by omega⟩, ?_⟩
    refine r_st (j := 2) rfl upd_same rfl (show 2 < 4 from by decide) ⟨_, rfl, ?_⟩
    rw [upd_upd]
    refine fin p (c.fdiv n) s (c % n) h1 ?_ h3 h4 (Int.emod_nonneg _ (by omega)) (Int.emod_lt_of_pos _ hn)
    rw [Int.fdiv_eq_ediv_of_nonneg c (by omega)]
    exact Int.ediv_nonneg h2 (by omega)
  -- behind the first step of the refill
  have mid : ∀ p c s : Int, -1 ≤ p → 0 ≤ c → 0 ≤ s → s < 2147483647 → tkMid K { D with nx := fun σ H => tkBack K D σ H } [some (.ref a), some (.int n), y] (upd H a (.lst [.ref l, .int p, .int c, .int s])) := by
    intro p c s h1 h2 h3 h4
    refine r_ix (j := 2) rfl (SqL.of upd_same) rfl rfl ⟨rfl, _, rfl, ite2 (fun _ => ?_) (fun _ => back p c s h1 h2 h3 h4)⟩
    refine r_ix (j := 3) rfl (SqL.of upd_same) rfl rfl ⟨s, 48271, rfl, rfl, .inl ⟨by omega, by omega⟩, s * 48271, 11, rfl, rfl, .inl ⟨_, rfl, _, _, rfl, rfl, (show (0 : Int) < 2147483647 by decide), ?_⟩⟩
    refine r_st (j := 3) rfl upd_same rfl (show 3 < 4 from by decide) ?_
    rw [upd_upd]
    refine r_ix (j := 3) rfl (SqL.of upd_same) rfl rfl ?_
    refine r_st (j := 2) rfl upd_same rfl (show 2 < 4 from by decide) ?_
    rw [upd_upd]
    have q1 := Int.emod_nonneg (s * 48271 + 11) (show (2147483647 : Int) ≠ 0 by decide)
    have q2 := Int.emod_lt_of_pos (s * 48271 + 11) (show (0 : Int) < 2147483647 by decide)
    exact back p _ _ h1 q1 q1 q2
  intro p c s h1 h2 h3 h4
  refine r_ix (j := 2) rfl (SqL.of upd_same) rfl rfl ⟨rfl, _, rfl, ite2 (fun _ => ?_) (fun _ => back p c s h1 h2 h3 h4)⟩
  refine r_ix (j := 1) rfl (SqL.of upd_same) rfl rfl ⟨p, 1, rfl, rfl, ?_⟩
  refine r_st (j := 1) rfl upd_same rfl (show 1 < 4 from by decide) ?_
  rw [upd_upd]
  have hL : ∀ o, SqL K (upd H a o) l (ns.map V.int) := fun o => SqL.of (by rw [upd_ne hal]; exact hl)
  refine r_ix (j := 1) rfl (SqL.of upd_same) rfl rfl ?_
  refine r_ix (j := 0) rfl (SqL.of upd_same) rfl rfl ⟨l, ns.map V.int, rfl, .inl (hL _), p + 1, _, rfl, rfl, _, rfl, ite2 (fun hlt => ?_) (fun _ => mid (p + 1) c s (by omega) h2 h3 h4)⟩
  have hlt' : p + 1 < (ns.length : Int) := by
    have := of_decide_eq_true hlt
    rw [List.length_map] at this
    exact this
  have hk : (p + 1).toNat < ns.length := by omega
  refine r_ix (j := 0) rfl (SqL.of upd_same) rfl rfl ?_
  refine r_ix (j := 1) rfl (SqL.of upd_same) rfl rfl ⟨l, ns.map V.int, p + 1, .int (ns[(p + 1).toNat]), rfl, rfl, hL _, at_of (j := (p + 1).toNat) (by omega) (by rw [List.getElem?_map, List.getElem?_eq_getElem hk]; rfl), ?_⟩
  refine r_st (j := 2) rfl upd_same rfl (show 2 < 4 from by decide) ?_
  rw [upd_upd]
  exact mid (p + 1) _ s (by omega) (h0 _ (List.getElem_mem hk)) h3 h4
/-- the promise of _law_take -/
theorem take_sp {vs : List V} {H : Hp} {Q : VK} {E : XK} (h : spP K κ [true, false] cTake vs H Q E) : ∃ (a l : Addr) (ns : List Int) (n p c s : Int), vs = [.ref a, .int n] ∧ 0 < n ∧ n < 1000000000 ∧ l ≠ a ∧ H l = some (.lst (ns.map V.int)) ∧ (∀ i, i ∈ ns → 0 ≤ i) ∧
    H = upd H a (.lst [.ref l, .int p, .int c, .int s]) ∧ -1 ≤ p ∧ 0 ≤ c ∧ 0 ≤ s ∧ s < 2147483647 ∧
    ∀ p c s r : Int, -1 ≤ p → 0 ≤ c → 0 ≤ s → s < 2147483647 → 0 ≤ r → r < n → Q (.int r) (upd H a (.lst [.ref l, .int p, .int c, .int s])) := by
  obtain ⟨g, ds, P, x, wf, r, ⟨n, rfl, hn, hn2, hP⟩, hQ, _⟩ := h
  cases r with
  | @draw a _ _ _ hd t =>
    cases t with
    | val rv t =>
      cases t
      cases rv
      obtain ⟨na, l, ns, p, c, s, e, el, h0, h63, b1, b2, b3, b4⟩ := wf.dr a hd
      have hla : l ≠ a := fun z => by rw [z, na] at el; cases el
      refine ⟨a, l, ns, n, p, c, s, rfl, hn, hn2, hla, wf.sub _ _ el, h0, same_upd e, b1, b2, b3, b4, fun p c s r q1 q2 q3 q4 q5 q6 => ?_⟩
      refine hQ g _ _ _ (Ext.drawn wf hd ?_) (.int r) (hP r q5 q6)
      exact ⟨l, ns, p, c, s, upd_same, el, h0, h63, q1, q2, q3, q4⟩

/-- the promise of _law_draw -/
def spDraw (K : PySem.W.Frag) : Sp := fun vs H Q _ => ∃ (b : Addr) (ns : List Int), vs = [.ref b] ∧ SqL K H b (ns.map V.int) ∧ ns.length ≤ 63 ∧
  ∀ (H' : Hp) (a l : Addr) (ms : List Int) (s : Int), Same H H' → H a = none → H l = none → l ≠ a → H' a = some (.lst [.ref l, .int (-1), .int 0, .int s]) → H' l = some (.lst (ms.map V.int)) → (∀ i, i ∈ ms → 0 ≤ i) → ms.length ≤ 63 → 0 ≤ s → s < 2147483647 → Q (.ref a) H'
/-- the reading of _law_draw's body -/
abbrev drAbs : List V → Hp → VK → Prop := fun xs H Q => ∃ i, xs = [.int i] ∧ Q (.int (if i < 0 then -i else i)) H
abbrev drCell : L2.TE := L2.tCB drAbs (L2.tCons (L2.tCB tkInt (L2.tCons (L2.tVar 2) L2.tNil)) L2.tNil)
abbrev drStep : L2.TS := L2.tAsg (L2.tOp (rI (fun _ j => 0 < j) fun i j => .int (i % j)) (L2.tCB tkInt (L2.tCons (L2.tOp (rI0 fun i j => .int (i + j)) (L2.tOp (rI0 fun i j => .int (i + j)) (L2.tOp (rI CMul fun i j => .int (i * j)) (L2.tVar 1) (L2.tC (.int 48271)))
  (L2.tOp (rI (fun _ j => 0 < j) fun i j => .int (i % j)) drCell (L2.tC (.int 65521)))) (L2.tC (.int 1))) L2.tNil)) (L2.tC (.int 2147483647))) (L2.gName 1)
abbrev drEnd (K : PySem.W.Frag) : L2.TS := L2.tRet (L2.tLst (L2.tCons (L2.tLc (L2.iList K (L2.tVar 0)) (L2.gName 2) L2.tYes drCell [2]) (L2.tCons (L2.tUn (rU fun i => .int (-i)) (L2.tC (.int 1))) (L2.tCons (L2.tC (.int 0)) (L2.tCons (L2.tVar 1) L2.tNil)))))
abbrev drAll (K : PySem.W.Frag) : L2.TS := L2.tSeq (L2.tAsg (L2.tC (.int 7)) (L2.gName 1)) (L2.tSeq (L2.tFor (L2.iList K (L2.tVar 0)) (L2.gName 2) drStep) (drEnd K))
theorem draw_read {D : L2.Ends} {vs : List V} {H : Hp} {E : XK} (h : spDraw K vs H D.rt E) : drAll K D (L2.start ["script", "seed", "cell"] vs) H := by
  obtain ⟨b, ns, rfl, hS, h63, q⟩ := h
  have fin : ∀ (s : Int) (y : Option V), 0 ≤ s → s < 2147483647 → drEnd K D [some (.ref b), some (.int s), y] H := by
    intro s y h1 h2
    refine ⟨.ref b, rfl, b, rfl, ⟨_, hS⟩, fun l nl => ?_⟩
    refine lc_list (K := K) (a := b) (xs := ns.map V.int) (fun i H' => ∃ g : Hp, H' = upd H l (.lst (((ns.take i).map fun i => if i < 0 then -i else i).map V.int))) ⟨H, rfl⟩ (fun i H' hi ⟨_, e⟩ => ?_) (fun i x H' hx ⟨_, e⟩ => ?_) (fun H' ⟨_, e⟩ => ?_)
    · subst e
      exact SqL.sub (fun c u hc => by rw [upd_ne (show c ≠ l from fun z => by rw [z, nl] at hc; cases hc)]; exact hc) hS
    · subst e
      rw [List.getElem?_map] at hx
      obtain ⟨z, hz, rfl⟩ : ∃ z, ns[i]? = some z ∧ V.int z = x := by
        cases q : ns[i]? with
        | none => rw [q] at hx; cases hx
        | some z => rw [q] at hx; exact ⟨z, rfl, Option.some.inj hx⟩
      refine ⟨rfl, .int z, rfl, .inl ⟨z, rfl, z, rfl, ((ns.take i).map fun i => if i < 0 then -i else i).map V.int, upd_same, ?_, H, ?_⟩⟩
      · rw [List.length_map, List.length_map, List.length_take]
        exact Nat.lt_of_le_of_lt (Nat.min_le_right _ _) (Nat.lt_of_le_of_lt h63 (by rw [sizeLine_eq]; decide))
      · rw [upd_upd, List.take_add_one, hz]
        simp
    · subst e
      rw [List.length_map, List.take_length]
      refine ⟨1, rfl, .int s, rfl, (show 4 ≤ sizeLine by rw [sizeLine_eq]; decide), fun a na => ?_⟩
      have hla : l ≠ a := fun z => by rw [← z, upd_same] at na; cases na
      have na' : H a = none := by rw [upd_ne hla.symm] at na; exact na
      refine q _ a l (ns.map fun i => if i < 0 then -i else i) s (fun c o hc => ?_) na' nl hla upd_same ?_ (fun i hi => ?_) (by rw [List.length_map]; exact h63) h1 h2
      · rw [upd_ne (show c ≠ a from fun z => by rw [z, na'] at hc; cases hc), upd_ne (show c ≠ l from fun z => by rw [z, nl] at hc; cases hc)]
        exact hc
      · rw [upd_ne hla, upd_same]
      · obtain ⟨j, _, rfl⟩ := List.mem_map.mp hi
        split <;> omega
  refine ⟨.ref b, rfl, b, rfl, ⟨_, hS⟩, ?_⟩
  refine for_list (K := K) (a := b) (xs := ns.map V.int) (fun i σ H' => H' = H ∧ ∃ s y, σ = [some (.ref b), some (.int s), y] ∧ 0 ≤ s ∧ s < 2147483647) ⟨rfl, 7, none, rfl, by decide, by decide⟩ (fun i σ H' hi ⟨e, _⟩ => by rw [e]; exact hS) (fun i x σ H' hx ⟨e, s, y, es, h1, h2⟩ => ?_) (fun σ H' ⟨e, s, y, es, h1, h2⟩ => ?_)
  · subst e es
    rw [List.getElem?_map] at hx
    obtain ⟨z, hz, rfl⟩ : ∃ z, ns[i]? = some z ∧ V.int z = x := by
      cases q : ns[i]? with
      | none => rw [q] at hx; cases hx
      | some z => rw [q] at hx; exact ⟨z, rfl, Option.some.inj hx⟩
    refine ⟨_, rfl, s, 48271, rfl, rfl, .inl ⟨by omega, by omega⟩, _, rfl, .inl ⟨z, rfl, z, rfl, _, 65521, rfl, rfl, (show (0 : Int) < 65521 by decide), _, _, rfl, rfl, _, 1, rfl, rfl, .inl ⟨_, rfl, _, 2147483647, rfl, rfl, (show (0 : Int) < 2147483647 by decide), rfl, _, _, rfl, ?_, ?_⟩⟩⟩
    · exact Int.emod_nonneg _ (by decide)
    · exact Int.emod_lt_of_pos _ (by decide)
  · subst e es
    exact fin s y h1 h2
section
variable {X : Cx} {W : XK} {pos : Pos}
theorem js_draw {i j : Nat} {x y z : Str} {p1 p2 p3 cp : Pos} {f : Addr} {fd : FuncData} {k : Nat} {ps : List Str} (hN : X.N.Nodup) (hi : X.N[i]? = some x) (hx : L2.Loc X.env.scope x) (F : FnOk X.prog X.w X.K X.mg X.base (L2.CX X.prog X.w) k f fd ps (spDraw X.K)) (hr : Room k X.A) (hg : Gl X z)
    (hm : X.mg z = some (.ref f)) (hk : PySem.W.keepIn X.K (.ref f) = true) (hb : Binds X.K fd ps []) (hp : Passes (L2.CX X.prog X.w) X W) (hNj : X.N[j]? = some y := by rfl) (hv : Vis X.env.scope y := by first | exact Or.inl rfl | exact Or.inr (Or.inl rfl) | exact Or.inr (Or.inr rfl))
    (hd : (y == ("__debug__" : Str)) = false := by decide) (hcd : (y == ("__classdict__" : Str)) = false := by decide) (hdb : (z == ("__debug__" : Str)) = false := by decide)
    (he : starEach [.Name y p3] X.env = (false, eval (.Name y p3) X.env) :: starEach [] X.env := by rfl) (hpl : (backTo cp (starEach [] X.env)).any (·.1) = false := by rfl)
    (hs : swapsWith (.Call (.Name z p2) [.Name y p3] [] cp) (some (.Name x p1)) pos.line X.env = pure false := by rfl)
    (hf : X.fn x = true ∨ X.env.scope.names.lookup x = some .local := by first | exact .inl rfl | exact .inr rfl | assumption) :
    JS X κ W (.Assign [.Name x p1] (.Call (.Name z p2) [.Name y p3] [] cp) pos) (s_draw i j) :=
  PS.weak (ps_set hN hi hx (pe_call F hr hg hm hk hb .nil hp (pa_cons (pe_var hNj hv hd hcd) pa_nil he) hdb he hpl) hs hf) fun E σ H ⟨g0, H0, g, ρ, P, L, q, S⟩ => by
  obtain ⟨q1, q2⟩ := q
  unfold isScr at q1
  split at q1
  · rename_i e
    obtain ⟨o, h1, r⟩ := L.at e
    cases r with
    | @scr b ns hS hl =>
      refine ⟨_, h1, b, ns, rfl, SqL.sub L.wf.sub hS, hl, fun H' a l ms s sm na nl hla ea el hms hml hs1 hs2 => ?_⟩
      have w := L.wf
      have fa := w.freeN na
      have fl := w.freeN nl
      -- the new ghosts: l is frozen, a is a draw
      have ex : Ext X.K g H ⟨upd g.G l (.lst (ms.map V.int)), fun b => g.Dr b ∨ b = a⟩ H' := by
        have ne : ∀ b u, g.G b = some u → b ≠ l := fun b u h z => by rw [z, fl.1] at h; cases h
        have sub : Sub g.G (upd g.G l (.lst (ms.map V.int))) := fun b u h => by rw [upd_ne (ne b u h)]; exact h
        refine ⟨sub, fun b h => .inl h, fun b u hb _ => sm b u hb, fun b h => ?_, fun b h => ?_, fun b u h => ?_, fun b h => ?_⟩
        · by_cases hb : b = l
          · subst hb; exact .inr nl
          · have h' : upd g.G l (.lst (ms.map V.int)) b ≠ none := h
            rw [upd_ne hb] at h'
            exact .inl h'
        · rcases h with h | rfl
          · exact .inl h
          · exact .inr na
        · have h' : upd g.G l (.lst (ms.map V.int)) b = some u := h
          by_cases hb : b = l
          · subst hb; rw [upd_same] at h'; cases h'; exact el
          · rw [upd_ne hb] at h'
            exact sm b u (w.sub b u h')
        · rcases h with h | rfl
          · obtain ⟨n1, l', ns', p', c', s', e1, e2, r⟩ := w.dr b h
            have hb : b ≠ l := fun z => fl.2 (by rw [← z]; exact h)
            exact ⟨by show upd g.G l _ b = none; rw [upd_ne hb]; exact n1, l', ns', p', c', s', sm _ _ e1, sub _ _ e2, r⟩
          · refine ⟨by show upd g.G l _ b = none; rw [upd_ne hla.symm]; exact fa.1, l, ms, -1, 0, s, ea, upd_same, hms, hml, by omega, by omega, hs1, hs2⟩
      exact S.nx _ H' _ _ ((L.ext ex).set i (.draw (.inr rfl)) fun _ z => nomatch z) ex.gg q2
  · exact q1.elim
end
end
end PL

namespace PL
open PySem PySem.Spec PyProof.Rows L2
section
variable {X : Cx} {κ : Cls} {W : XK} {pos : Pos} {tg a b c e : Expr} {ta tb tc te : uE}
/-- xs.insert(k, v) -/
theorem js_insert (i : Nat) {x : Str} {apos cpos p1 : Pos} (hk : JB X κ W a ta) (h : JE X κ W e te) (hN : X.N[i]? = some x := by rfl) (hv : Vis X.env.scope x := by first | exact Or.inl rfl | exact Or.inr (Or.inl rfl) | exact Or.inr (Or.inr rfl)) (hd : (x == ("__debug__" : Str)) = false := by decide)
    (hcd : (x == ("__classdict__" : Str)) = false := by decide) (hse : starEach [a, e] X.env = (false, eval a X.env) :: starEach [e] X.env := by rfl) (hse2 : starEach [e] X.env = (false, eval e X.env) :: starEach [] X.env := by rfl)
    (hbase : attributeBase (.Name x p1) "insert" X.env (eval (.Name x p1) X.env) = eval (.Name x p1) X.env := by rfl)
    (hfew : ((backTo cpos (starEach [a, e] X.env)).all (fun x => !x.1) && (backToKw cpos (keywordEach [] X.env)).all (fun x => x.1.isSome) && decide (([a, e] : List Expr).length + ([] : List Keyword).length + (if ([] : List Keyword).isEmpty then 0 else 1) < 30)) = true := by rfl)
    (hline : (apos.endLine == cpos.line) = true := by rfl) (hpl : (backTo cpos (starEach [e] X.env)).any (·.1) = false := by rfl) (hs : swapsWith (.Call (.Attribute (.Name x p1) "insert" apos) [a, e] [] cpos) none pos.line X.env = pure false := by rfl) :
    JS X κ W (.Expr (.Call (.Attribute (.Name x p1) "insert" apos) [a, e] [] cpos) pos) (s_insert i ta te) :=
  PS.weak (ps_expr (pe_bm PySem.F.plainAttrs_list PySem.F.slot_list_insert PySem.F.type_list_insert mt_insert (pe_var hN hv hd hcd) (pa_cons hk (pa_cons h pa_nil hse2) hse) hbase hfew hline hse hpl) hs) fun E σ H ⟨g0, H0, g, ρ, P, L, q, S⟩ => by
  obtain ⟨ds, hρ, q⟩ := ownOf_some q
  obtain ⟨p, vs, hσ, n0, n1, n2, hp, r⟩ := L.own hρ
  refine ⟨_, hσ, .inl ⟨rfl, _, SqL.of hp⟩, g0, H0, g, ρ, _, P.ex, L, q, fun g1 H1 kv kd e1 rk q1 => ?_, S.ex⟩
  obtain ⟨k, rfl, q1⟩ := nOf_int rk q1
  refine ⟨g0, H0, g1, ρ, _, P.ex, L.ext e1, q1, fun g2 H2 v d e2 rv q2 => ?_, S.ex⟩
  obtain ⟨⟨hlen, k0, k1⟩, q2⟩ := q2
  have e12 := e1.trans L.wf e2
  have m := SlR.ext e12 (SlR.own n1 n2 hp r)
  have hp1 := e12.keep _ _ hp n2
  cases m with
  | own m1 m2 m3 mr =>
    refine ⟨p, vs, k, v, rfl, rfl, hp1, by rw [r.len]; exact Nat.lt_of_lt_of_le hlen ln_size, k0, by omega, ?_⟩
    have r' := r.sub e12.gg
    exact S.nx g2 _ σ _ ((L.ext e12).change hρ hσ n0 m1 m2 (((r'.take _).append (.cons rv .nil)).append (r'.drop _))) e12.gg q2
/-- range(n) as a value of a slot -/
theorem call_range1v : CallR X (.type "range") (fun vs H Q => ∃ j : Int, vs = [V.int j] ∧ ∀ p, H p = none → Q (.ref p) (upd H p (.rng 0 j))) := by
  intro pins s σ H vs us Q I r h
  obtain ⟨j, rfl, q⟩ := h
  obtain ⟨u, rfl, t, rfl⟩ := vals1 r
  refine call_range_1 ⟨.ref s.heap.objs.size, upd H s.heap.objs.size (.rng 0 j), I.laid (t' := s.toks + 1 + 1) (fun _ _ k => Heap.get?_push_of_some _ k) (Nat.le_refl _) ?_, rfl, q _ (I.hok.fresh (Nat.le_refl _))⟩
  exact ⟨_, _, _, Heap.get?_push_size _ rfl⟩
theorem js_rng {i : Nat} {x : Str} {p p2 cp : Pos} (hN : X.N.Nodup) (hi : X.N[i]? = some x) (hx : L2.Loc X.env.scope x) (hg : Gl X "range") (hm : X.mg "range" = none) (ha : JB X κ W a ta) (hse : starEach [a] X.env = (false, eval a X.env) :: starEach [] X.env := by rfl) (hpl : (backTo cp (starEach [] X.env)).any (·.1) = false := by rfl)
    (hs : swapsWith (.Call (.Name "range" p) [a] [] cp) (some (.Name x p2)) pos.line X.env = pure false := by rfl)
    (hf : X.fn x = true ∨ X.env.scope.names.lookup x = some .local := by first | exact .inl rfl | exact .inr rfl | assumption) : JS X κ W (.Assign [.Name x p2] (.Call (.Name "range" p) [a] [] cp) pos) (s_rng i ta) :=
  PS.weak (ps_set hN hi hx (pe_callTy call_range1v hg hm boot_range (pa_cons ha pa_nil hse) (by decide) (by decide) hse hpl) hs hf) fun E σ H ⟨g0, H0, g, ρ, P, L, q, S⟩ => by
  refine ⟨g0, H0, g, ρ, _, P.ex, L, q, fun g1 H1 v d e1 r1 q1 => ?_, S.ex⟩
  obtain ⟨j, rfl, q1, q2⟩ := nOf_int r1 q1
  refine ⟨j, rfl, fun p np => ?_⟩
  have e2 : Ext X.K g1 H1 ⟨upd g1.G p (.rng 0 j), g1.Dr⟩ (upd H1 p (.rng 0 j)) := Ext.frozenNew e1.wf np
  exact S.nx _ _ _ _ ((L.ext (e1.trans L.wf e2)).set i (.rng upd_same) fun _ z => nomatch z) (e1.gg.trans e2.gg) q2
theorem ji_rngV (i : Nat) {x : Str} (hN : X.N[i]? = some x := by rfl) (hv : Vis X.env.scope x := by first | exact Or.inl rfl | exact Or.inr (Or.inl rfl) | exact Or.inr (Or.inr rfl)) (hd : (x == ("__debug__" : Str)) = false := by decide)
    (hcd : (x == ("__classdict__" : Str)) = false := by decide) : JI X κ W tg (.Name x pos) (i_rngV i) := by
  constructor
  intro pins s σ H R I h
  obtain ⟨g0, H0, g, ρ, P, xx, L, q, hR, hx⟩ := h
  unfold i_rngV rgOf at q
  split at q
  · rename_i lo hi e
    obtain ⟨o, h1, r⟩ := L.at e
    cases r with
    | @rng a _ _ hG =>
      apply thn ((pe_var (pos := pos) hN hv hd hcd).run pins s σ H (fun v H' => v = .ref a ∧ H' = H) I ⟨_, h1, rfl, rfl⟩)
      rintro v s1 ⟨y, H1, I1, r1, rfl, rfl⟩
      cases r1
      obtain ⟨t, u, w, hob⟩ := I1.hok a _ (L.wf.sub _ _ hG)
      obtain ⟨q0, q⟩ := q
      refine wpAny_pyIter_range hob (small_one (rOk_wide q0.1).1 (rOk_wide q0.1).2 (rOk_wide q0.2).1 (rOk_wide q0.2).2) ?_
      have fresh : ∀ z ∈ [s1.heap.objs.size], FpOk X pins H1 z := by
        intro z hz
        rw [List.mem_singleton.mp hz]
        exact I1.fpOk (Nat.le_refl _) (I1.hok.fresh (Nat.le_refl _))
      refine ⟨_, [s1.heap.objs.size], _, Itr lo (hi - lo).toNat, H1, rfl, I1.kept (t' := s1.toks) (fun _ _ k => Heap.get?_push_of_some _ k), turn_range _ lo (hi - lo).toNat, ?_, fresh, hR g H1 _ _ (Ext.refl L.wf) wk_range q⟩
      have e1 : lo + ((0 : Nat) : Int) * 1 = lo := by simp
      have e2 : (((hi - lo).toNat : Nat) : Int) - ((0 : Nat) : Int) = Builtin.Range.rangeSize lo hi 1 := by rw [rangeSize_one]; split <;> omega
      show IsRangeIter _ _ (lo + ((0 : Nat) : Int) * 1) ((((hi - lo).toNat : Nat) : Int) - ((0 : Nat) : Int)) 1
      rw [e1, e2]
      exact Heap.get?_push_size _ rfl
  · exact q.elim
/-- repr(x) of data, where no repr runs -/
theorem b_repr (hgd : X.A.guards = some []) (hu : X.A.units + 64 < cLine) : COp X (.builtin "repr") o_repr := by
  refine ⟨fun vs H Q => ∃ v d, vs = [v] ∧ Dp X.K H v d ∧ showOk d ∧ Q (.str (PyData.shown d)) H, ?_, fun g H v1 d1 P Q w b h hQ => ⟨v1, d1, rfl, b.dp w, h.1, hQ g H _ _ (Ext.refl w) (.str _) h.2⟩⟩
  intro pins s σ H vs us Q I r h
  obtain ⟨v, d, rfl, hd, ⟨k1, k2, k3, k4⟩, q⟩ := h
  obtain ⟨u, rfl, ru⟩ := vals1 r
  obtain ⟨as, rd⟩ := Dp.reads I d v u hd ru
  have hz : (PyData.shown d).length ≤ sizeLine := Nat.le_trans k3 ln_size
  have fin : ∀ h' u tk, (∀ b o, s.heap.get? b = some o → h'.get? b = some o) → EP X pins σ Q (.str (PyData.shown d) u) { s with heap := h', toks := tk } := fun h' u tk hk => ⟨.str _, H, I.kept hk, ⟨_, rfl⟩, q⟩
  have lim : X.A.units + (d.depth + 1) < cLine := by omega
  cases rd with
  | none => exact PySem.P.repr_of_none (fin s.heap _ _ fun _ _ e => e)
  | bool b => exact PySem.P.repr_of_bool (fin s.heap _ _ fun _ _ e => e)
  | int i t => exact PySem.P.repr_of_int (of_decide_eq_true k1) (fin s.heap _ _ fun _ _ e => e)
  | str x t => exact PySem.P.repr_of_str (fin s.heap _ _ fun _ _ e => e) hz
  | list h1 h2 h3 h4 => exact repr_of_reads' (.list h1 h2 h3 h4) k1 (fun z => by rw [k2] at z; cases z) hgd lim (fun _ _ e => e) fin hz
  | tuple h1 h2 h3 h4 => exact repr_of_reads' (.tuple h1 h2 h3 h4) k1 (fun z => by rw [k2] at z; cases z) hgd lim (fun _ _ e => e) fin hz
  | dict h1 h2 h3 h4 h5 => cases k2
end
end PL

namespace PL
open PySem PySem.Spec PyProof.Rows L2
section
variable {P : Program} {w : World} {K : PySem.W.Frag} {mg mb : Str → Option Value} {κ : Cls}
theorem deeper_guards {A : Around} {env : PySem.Env} (h : A.guards = some []) : (A.deeper env).guards = some [] := h
/-- a law that calls repr: its body at the row's own call, where no repr runs -/
theorem law_run {x qual : Str} {st : Stmt} {fa a : Addr} {fd : FuncData} {N : List Str} {k : Nat} {T : uS} {s1 : Shared} {vs : List Value} {ns : List Int}
    (KX : K.In s1.heap) (hG : s1.heap.Ns mainGlobals mg) (hB : s1.heap.Ns builtinsNs mb) (hBB : ∀ x : Str, x ≠ "__name__" → mb x = bootBuiltins x) (hlim : s1.heap.NoLimit) (hgens : s1.gens = #[])
    (hscr : s1.heap.get? a = some { cls := .type "list", data := .seq vs.toArray }) (hints : IntsAre vs ns) (hl : ns.length ≤ 63) (F : Fun K x qual st fa fd) (S : FnScope N ["script"] (defScope st)) (hr : Room (k + 1) callerA)
    (hbind : ∀ (s : Shared) (u : Value), BindsTo s fd ⟨[u], []⟩ [("script", u)])
    (hbody : ∀ (base : Heap) (cdv : Value) (A : Around) (outer : List PySem.Env) (s : Shared) (H : Hp) (E : XK), A.guards = some [] → Room k (A.deeper (envOfC qual (defScope st) s.heap.objs.size fa cdv)) →
      JSs (cxOf (L2.CX P w) P w K mg base N qual (defScope st) fa cdv A outer s H E) κ E (defBody st) T) (hT : lawOk N.length T) :
    codeAny (model P w) callerA (.call (.ref fa) ⟨[.ref a], []⟩) (fun r s' => r = .ok (.ret (.bool true)) ∧ OldK s1.heap s'.heap ∧ s'.os = s1.os ∧ AllBare s'.gens) s1 := by
  obtain ⟨oc, od, kV, doc, pm, an, cdv, ct, osl, rfl, lk, hcd⟩ := F.ex
  have rv := vals_ints hints
  have h63 : ns.length ≤ sizeLine := Nat.le_trans hl (by rw [sizeLine_eq]; decide)
  -- the abstract heap: nothing, or the script alone
  have main : ∀ H : Hp, SqL K H a (ns.map V.int) → HOk P w H s1.heap → (∀ b u, H b = some u → b = a ∧ (∃ xs, u = .frz { cls := .type "list", data := .seq vs.toArray } xs) ∧ K.lookup a = none) →
      codeAny (model P w) callerA (.call (.ref fa) ⟨[.ref a], []⟩) (fun r s' => r = .ok (.ret (.bool true)) ∧ OldK s1.heap s'.heap ∧ s'.os = s1.os ∧ AllBare s'.gens) s1 := by
    intro H hS hok hH
    have hnone : ∀ {b : Addr}, b ≠ a → H b = none := by
      intro b hb
      cases q : H b with
      | none => rfl
      | some u => exact absurd (hH b u q).1 hb
    have KB : K.In (hidT s1.heap H) := by
      intro b o e
      apply hidT_get (KX b o e)
      cases q : H b with
      | none => rfl
      | some u =>
        obtain ⟨rfl, _, z⟩ := hH b u q
        rw [z] at e; cases e
    have nsB : ∀ {b : Addr} {m : Str → Option Value}, s1.heap.Ns b m → (hidT s1.heap H).Ns b m := by
      rintro b m ⟨o, es, ep, e, d, r⟩
      refine ⟨o, es, ep, hidT_get e (hnone fun z => ?_), d, r⟩
      subst z
      rw [hscr] at e; cases e
      cases d
    have nl : (hidT s1.heap H).NoLimit := by
      obtain ⟨mc, h1, h2⟩ := hlim
      exact ⟨mc, nsB h1, h2⟩
    have e0 : Env0 P w K mg (hidT s1.heap H) callerA [] s1 H := {
      frames := rfl
      mod := ⟨KB, nsB hG, ⟨mb, nsB hB, hBB⟩, nl⟩
      bs := fun b o e => of_hidT e
      bsz := by rw [hidT_size]; exact Nat.le_refl _
      funs := trivial
      frf := by intro b hb; exact absurd (show b ∈ ([] : List Addr) from hb) (by simp)
      hok := hok
      bare := .of_eq hgens }
    have par : ∀ y ∈ (["script"] : List Str).zip [Value.ref a], (defScope st).names.lookup y.1 = some .local ∨ ((defScope st).names.lookup y.1 = some .cell ∧ ((cellsFrom (s1.heap.objs.size + 1) (defScope st).names []).lookup y.1).isSome = true) := by
      rintro ⟨n, v⟩ hy
      rcases S.par n (List.of_mem_zip hy).1 with q | q
      · exact .inl q
      · exact .inr ⟨q, PySem.W.cellsFrom_some _ _ _ (.inl q)⟩
    refine codeAny_call_function (hr.mono (Nat.zero_le _)).depth (KX _ _ lk) rfl S.co S.gen rfl (PySem.W.codeRec_of KX hcd) (hbind _ _ _ _ _ _ ?_)
    refine wpAny_newFunctionEnv_cells S.kind par ?_
    rintro env rfl s2 x2
    refine ⟨hlim.keeps x2.toInCall.keep, codeAny_func ?_⟩
    have I : L2.Inv (cxOf (L2.CX P w) P w K mg (hidT s1.heap H) N qual (defScope st) fa cdv callerA [] s1 H fun _ _ _ => False) [] (L2.start N [V.ref a]) H s2 :=
      inv_start S hr.hd e0 rfl (.cons rfl .nil) x2
    have hN : 0 < N.length := by
      cases N with
      | nil => have := S.pre; cases this
      | cons _ _ => exact Nat.succ_pos _
    -- the ghosts: what is tracked is frozen
    have wf : WFg K ⟨H, fun _ => False⟩ H := ⟨fun _ _ h => h, fun _ h => h.elim⟩
    have L : Lk K ⟨H, fun _ => False⟩ H ⟨H, fun _ => False⟩ H (L2.start N [V.ref a]) (.scr :: List.replicate (N.length - 1) .emp) := by
      have key : ∀ (j : Nat) (t : Sl), (Sl.scr :: List.replicate (N.length - 1) .emp)[j]? = some t → (j = 0 ∧ t = .scr) ∨ t = .emp := by
        intro j t h
        cases j with
        | zero => exact .inl ⟨rfl, (Option.some.inj h).symm⟩
        | succ j =>
          have h' : (List.replicate (N.length - 1) Sl.emp)[j]? = some t := h
          obtain ⟨hi, q⟩ := List.getElem?_eq_some_iff.mp h'
          exact .inr (by simpa using q.symm)
      refine ⟨wf, Ext.refl wf, ?_, ?_, ?_, ?_⟩
      · unfold L2.start
        simp
      · intro j o t h1 h2
        rcases key j t h2 with ⟨rfl, rfl⟩ | rfl
        · have h1' : some (V.ref a) = o := Option.some.inj h1
          subst h1'
          exact .scr hS hl
        · exact .emp
      · intro j o t b h1 h2 h3
        rcases key j t h2 with ⟨_, rfl⟩ | rfl <;> cases h3
      · intro j k o o' t u b _ h1 h2 h3 _ _ _
        rcases key j t h2 with ⟨_, rfl⟩ | rfl <;> cases h3
    have run := (hbody (hidT s1.heap H) cdv callerA [] s1 H (fun _ _ _ => False) rfl (hr.deeper _)).run [] s2 _ H { nx := fun _ _ => False, rt := fun v _ => v = .bl true } I
      ⟨_, H, _, _, _, L, hT, ⟨fun _ _ _ _ _ _ z => z.elim, fun g' H' v d _ r z => by have z' : d = .bool true := z; subst z'; cases r; rfl, fun _ _ _ _ _ _ z => z.elim, fun _ _ _ _ _ _ z => z.elim, lx_none⟩⟩
    refine wpAny_mono run (fun fl s' hq => ?_) fun e s' hq => ?_
    · cases fl with
      | ret u =>
        obtain ⟨v, σ', H', J, rv', rfl⟩ := hq
        cases rv'
        refine ⟨rfl, OldK.of_keep fun b o e => ?_, J.os, J.bare⟩
        cases q : H b with
        | none => exact J.base.keep b o e q (by intro z; exact absurd (show b ∈ ([] : List Addr) from z) (by simp)) (by intro z; exact absurd (show b ∈ ([] : List Addr) from z) (by simp))
        | some u =>
          obtain ⟨_, ⟨xs, rfl⟩, _⟩ := hH b u q
          have q' := J.base.frzs b _ _ q
          have k1 := (hok b _ q).1
          have k2 := (J.hok b _ q').1
          rw [e] at k1; cases k1
          exact k2
      | next => obtain ⟨_, _, _, z⟩ := hq; exact z.elim
      | brk => obtain ⟨_, _, _, z⟩ := hq; exact z.elim
      | cont => obtain ⟨_, _, _, z⟩ := hq; exact z.elim
    · refine wpAny_mono hq (fun _ s'' h => ?_) fun _ s'' h => ?_ <;> (obtain ⟨_, _, _, _, _, _, _, _, _, _, _, _, z⟩ := h; exact z.elim)
  cases hk : K.lookup a with
  | some o =>
    have e := KX a o hk
    rw [hscr] at e
    cases e
    exact main (fun _ => none) (.inr ⟨_, vs.toArray, _, hk, rfl, rfl, rfl, by rw [List.size_toArray, hints.length]; exact h63, rv⟩) (fun b u z => nomatch z) (fun b u z => nomatch z)
  | none =>
    refine main (fun b => if b = a then some (.frz { cls := .type "list", data := .seq vs.toArray } (.lst (ns.map V.int))) else none) (.inl (.inr ⟨_, if_pos rfl⟩)) (fun b u z => ?_) (fun b u z => ?_)
    · by_cases hb : b = a
      · subst hb
        have z' := (if_pos rfl).symm.trans z
        cases z'
        exact ⟨hscr, by rw [List.length_map]; exact h63, vs, _, rv, hscr⟩
      · have z' := (if_neg hb).symm.trans z
        cases z'
    · by_cases hb : b = a
      · subst hb
        have z' := (if_pos rfl).symm.trans z
        cases z'
        exact ⟨rfl, ⟨_, rfl⟩, hk⟩
      · have z' := (if_neg hb).symm.trans z
        cases z'
/-- a law's own run gives True -/
def LawRun (P : Program) (w : World) (K : PySem.W.Frag) (mg : Str → Option Value) (fa : Addr) : Prop := ∀ (mb : Str → Option Value) (a : Addr) (s1 : Shared) (vs : List Value) (ns : List Int),
    K.In s1.heap → s1.heap.Ns mainGlobals mg → s1.heap.Ns builtinsNs mb → (∀ x : Str, x ≠ "__name__" → mb x = bootBuiltins x) → s1.heap.NoLimit → s1.gens = #[] →
    s1.heap.get? a = some { cls := .type "list", data := .seq vs.toArray } → IntsAre vs ns → ns.length ≤ 63 →
    codeAny (model P w) callerA (.call (.ref fa) ⟨[.ref a], []⟩) (fun r s' => r = .ok (.ret (.bool true)) ∧ OldK s1.heap s'.heap ∧ s'.os = s1.os ∧ AllBare s'.gens) s1
theorem walk_law {l : PySem.W.OpenLaw} {q : Program} {loose : List Str} {XP : (Str → Option Value) → Heap → Prop} {YP : World → Heap → Prop} {d : DefRec} {K : Params → PySem.W.Frag} (hn : l.most = some 63) (hdf : d.params.defaults = [])
    (hY : ∀ (w : World) (h : Heap), YP w h → (K w.params).In h)
    (F : ∀ (w : World) (mg : Str → Option Value) (fa : Addr) (h : Heap), (K w.params).In h → h.Ns mainGlobals mg → mg d.name = some (.ref fa) → LawRun l.prog w (K w.params) mg fa) :
    PySem.W.WalkO q loose XP YP l.row.toRowW d [] (fun f vs => PySem.call f vs) := by
  apply Att.attach_call hn hdf
  intro w s0 s1 mg mb fa o pm cd doc a vs ns G Y ho hd hcd hmg hobj hints hlen hg
  exact F w mg fa _ (hY w _ Y) G.T.g hmg mb a s1 vs ns (hY w _ Y) G.T.g G.T.b G.T.builtins G.T.nolimit hg hobj hints hlen
theorem exm_self {S : Addr} (h1 : PySem.W.subIn K (.ref S) (.type "BaseException") = some true) (h2 : PySem.W.isClsIn K S = true) (h3 : PySem.W.typeIn K (.ref S) = some (.type "type")) (h4 : PySem.W.subIn K (.ref S) (.ref S) = some true) :
    PySem.W.exmOne K (.ref S) (.ref S) = some true := by
  have e1 : (PySem.W.subIn K (.ref S) (.type "BaseException") == some true) = true := by rw [h1] <;> rfl
  have e2 : ((PySem.W.clsIn K S).isSome && PySem.W.typeIn K (.ref S) == some (.type "type")) = true := by
    have h2' : (PySem.W.clsIn K S).isSome = true := h2
    rw [h2', h3] <;> rfl
  show (if (PySem.W.subIn K (.ref S) (.type "BaseException") == some true) = true then (if ((PySem.W.clsIn K S).isSome && PySem.W.typeIn K (.ref S) == some (.type "type")) = true then PySem.W.subIn K (.ref S) (.ref S) else none) else none) = some true
  rw [if_pos e1, if_pos e2]
  exact h4
theorem globInt {x : Str} {i : Int} {t : Tok} (h : mg x = some (.int i t)) : GlobC K mg x (.int i) := ⟨.int i, _, h, ⟨t, rfl⟩, fun _ => .int i⟩
theorem globStr {x y : Str} {t : Tok} (h : mg x = some (.str y t)) : GlobC K mg x (.str y) := ⟨.str y, _, h, ⟨t, rfl⟩, fun _ => .str y⟩
theorem vInt {i : Int} {t : Tok} : RelV (.int i) (.int i t) := ⟨t, rfl⟩
theorem vStr {i : Str} {t : Tok} : RelV (.str i) (.str i t) := ⟨t, rfl⟩
theorem globTup {x : Str} {a : Addr} {od : Option Addr} {its : Array Value} {n : Nat} {sl : Array (Option Value)} {vs : List V} {ds : List D} (h : mg x = some (.ref a)) (hk : K.lookup a = some ⟨.type "tuple", od, .seq its n, sl⟩) (hz : its.size ≤ 1000) (r : Vals vs its.toList) (q : ∀ G, RpL K G vs ds) : GlobC K mg x (.tuple ds) :=
  ⟨.ref a, _, h, rfl, fun G => .tup (.inr ⟨_, its, n, hk, rfl, rfl, Nat.le_trans hz (by rw [sizeLine_eq]; decide), r⟩) (q G)⟩
end
end PL

namespace PL
open PySem PySem.Spec PyProof.Rows L2
section
variable {X : Cx} {κ : Cls} {W : XK} {pos : Pos} {tg a b c e iter : Expr} {ta tb tc te : uE} {ti : uI} {ca : uC} {t u : uS} {body : List Stmt}
theorem tup2_some {Q : D → D → Prop} {d : D} (h : tup2 Q d) : ∃ u v, d = .tuple [u, v] ∧ Q u v := by
  unfold tup2 at h
  split at h
  · exact ⟨_, _, rfl, h⟩
  · exact h.elim
/-- one place of an own list is set -/
theorem sub_step {g0 g1 : Gh} {H0 H1 : Hp} {σ : L2.St} {ρ : Env} {i : Nat} {d : D} {v : V} {x : EX} {Q : Env → Prop} {tk : uE} (L1 : Lk X.K g0 H0 g1 H1 σ ρ) (rv : Rp X.K g1.G v d) (q1 : sub1 i tk d ρ Q x) (hx : LX X.K κ g0 H0 x W) {R : Hp → Prop}
    (hR : ∀ g2 H2 ρ', Lk X.K g0 H0 g2 H2 σ ρ' → Sub g1.G g2.G → Q ρ' → R H2) : ∃ v0, σ[i]? = some (some v0) ∧ tB X.K κ W tk σ H1 fun kv H2 => rSetL v0 kv v H2 R := by
  obtain ⟨ds, hρ, q1⟩ := ownOf_some q1
  obtain ⟨p, vs, hσ, n0, n1, n2, hp, r⟩ := L1.own hρ
  refine ⟨.ref p, hσ, g0, H0, g1, ρ, _, x, L1, q1, fun g2 H2 kv kd e2 rk q2 => ?_, hx⟩
  obtain ⟨z, rfl, q2⟩ := nOf_int rk q2
  have m := SlR.ext e2 (SlR.own n1 n2 hp r)
  have hp2 := e2.keep _ _ hp n2
  cases m with
  | own m1 m2 m3 mr =>
    have fin : ∀ j, ixN vs.length z = some j → Q (ρ.set i (.own (ds.set j d))) → rSetL (.ref p) (.int z) v H2 R := fun j hj hP =>
      ⟨p, vs, z, j, rfl, rfl, hp2, hj, hR g2 _ _ ((L1.ext e2).change hρ hσ n0 m1 m2 ((r.sub e2.gg).set (Rp.sub e2.gg rv) j)) e2.gg hP⟩
    unfold ixOf at q2
    by_cases hz : 0 ≤ z
    · rw [if_pos hz] at q2
      refine fin z.toNat ?_ q2.2
      unfold ixN
      rw [if_pos hz, r.len, if_pos q2.1]
    · rw [if_neg hz] at q2
      refine fin (z + ds.length).toNat ?_ q2.2
      unfold ixN
      rw [if_neg hz, r.len, if_pos q2.1]
/-- xs[a], xs[b] = t -/
theorem js_swp (i j : Nat) {x y : Str} {p1 p2 tp1 tp2 tpos : Pos} {kt : Nat} (hc : X.calm = true) (hv : JE X κ W e te) (hk : JB X κ W a ta) (hl : JB X κ W b tb) (hN : X.N[i]? = some x := by rfl) (hvis : Vis X.env.scope x := by first | exact Or.inl rfl | exact Or.inr (Or.inl rfl) | exact Or.inr (Or.inr rfl)) (hd : (x == ("__debug__" : Str)) = false := by decide)
    (hcd : (x == ("__classdict__" : Str)) = false := by decide) (hN2 : X.N[j]? = some y := by rfl) (hvis2 : Vis X.env.scope y := by first | exact Or.inl rfl | exact Or.inr (Or.inl rfl) | exact Or.inr (Or.inr rfl)) (hd2 : (y == ("__debug__" : Str)) = false := by decide)
    (hcd2 : (y == ("__classdict__" : Str)) = false := by decide)
    (ha : ∀ v, assign (.Subscript (.Name x p1) a tp1) X.env v = (do
      let ov ← holding [v] (eval (.Name x p1) X.env)
      let iv ← holding [v, ov] (eval a X.env)
      standAt tp1
      holding [v, ov, iv] (setItem ov iv v)
      release [v, ov, iv] []) := by intro _; rfl)
    (hb : ∀ v, assign (.Subscript (.Name y p2) b tp2) X.env v = (do
      let ov ← holding [v] (eval (.Name y p2) X.env)
      let iv ← holding [v, ov] (eval b X.env)
      standAt tp2
      holding [v, ov, iv] (setItem ov iv v)
      release [v, ov, iv] []) := by intro _; rfl)
    (s1 : (assignEach [.Subscript (.Name x p1) a tp1, .Subscript (.Name y p2) b tp2] X.env).map (·.2) = assign (.Subscript (.Name x p1) a tp1) X.env :: (assignEach [.Subscript (.Name y p2) b tp2] X.env).map (·.2) := by rfl)
    (s2 : (assignEach [.Subscript (.Name y p2) b tp2] X.env).map (·.2) = assign (.Subscript (.Name y p2) b tp2) X.env :: (assignEach [] X.env).map (·.2) := by rfl)
    (hn : (assignEach [.Subscript (.Name x p1) a tp1, .Subscript (.Name y p2) b tp2] X.env).length = 2 := by rfl)
    (hst : (assignEach [.Subscript (.Name x p1) a tp1, .Subscript (.Name y p2) b tp2] X.env).findIdx? (·.1) = none := by rfl)
    (hs : swapsWithSole [.Tuple [.Subscript (.Name x p1) a tp1, .Subscript (.Name y p2) b tp2] kt tpos] e pos.line X.env = pure false := by rfl)
    (hw : swappedStores [.Tuple [.Subscript (.Name x p1) a tp1, .Subscript (.Name y p2) b tp2] kt tpos] e X.env = pure none := by rfl)
    (h1 : (assignEach [.Tuple [.Subscript (.Name x p1) a tp1, .Subscript (.Name y p2) b tp2] kt tpos] X.env).map (·.2) = [assign (.Tuple [.Subscript (.Name x p1) a tp1, .Subscript (.Name y p2) b tp2] kt tpos) X.env] := by rfl) :
    JS X κ W (.Assign [.Tuple [.Subscript (.Name x p1) a tp1, .Subscript (.Name y p2) b tp2] kt tpos] e pos) (s_swp i j ta tb te) :=
  PS.weak (ps_asg hv (pg_tup hc (pgs_cons (pg_sub (pe_var hN hvis hd hcd) hk set_list ha) (pgs_cons (pg_sub (pe_var hN2 hvis2 hd2 hcd2) hl set_list hb) pgs_nil s2) s1) hn hst) hs hw h1) fun E σ H ⟨g0, H0, g, ρ, P, L, q, S⟩ => by
  refine ⟨g0, H0, g, ρ, _, P.ex, L, q, fun g1 H1 v d e1 rv q1 => ?_, S.ex⟩
  obtain ⟨d1, d2, rfl, qq⟩ := tup2_some q1
  clear q1
  have L1 := L.ext e1
  cases rv with
  | tup sq rl =>
    cases rl with
    | cons r1 rl =>
      cases rl with
      | cons r2 rl =>
        cases rl
        refine ⟨_, _, rfl, SqT.sub e1.wf.sub sq, rfl, _, _, rfl, ?_⟩
        refine sub_step L1 r1 qq S.ex fun g2 H2 ρ' L2 s2 q2 => ⟨_, _, rfl, ?_⟩
        refine sub_step L2 (Rp.sub s2 r2) q2 S.ex fun g3 H3 ρ'' L3 s3 q3 => ⟨rfl, ?_⟩
        exact S.nx g3 H3 _ _ L3 ((e1.gg.trans s2).trans s3) q3
end
end PL

namespace PL
open PySem PySem.Spec PyProof.Rows L2
/-! ### enumerate of a tuple -/
def ItN (K : PySem.W.Frag) (a : Addr) : It where
  go i H := ∃ (vs : List V) (v : V), SqT K H a vs ∧ vs[i]? = some v
  yld i H v H' := ∃ T x, v = .ref T ∧ H T = none ∧ (∀ vs, SqT K H a vs → vs[i]? = some x) ∧ H' = upd H T (.tup [.int (i : Nat), x])
  stop i H := ∃ vs : List V, SqT K H a vs ∧ vs.length = i
theorem turn_numT {P : Program} {w : World} {K : PySem.W.Frag} {es : List Expr} {k2 : Nat} {p2 : Pos} (a e j : Addr) :
    Turn P w K (.Tuple es k2 p2) (ItN K a) [e, j] e (fun i h => h.IsTupleIter j a i ∧ e ≠ j ∧ ∃ old, IsEnum h e j ((i : Nat) : Int) old) where
  mem := List.mem_cons_self
  obj := fun i h st b hb => by
    obtain ⟨⟨o, ho, _, hd⟩, _, old, he⟩ := st
    rcases List.mem_cons.mp hb with rfl | hb
    · exact ⟨_, he, fun v q => by cases q⟩
    · rw [List.mem_singleton.mp hb]
      exact ⟨o, ho, fun v q => by rw [hd] at q; cases q⟩
  keep := fun i h h' st k => by
    obtain ⟨s1, s2, old, s3⟩ := st
    exact ⟨s1.at fun o q => k j (by simp) o q, s2, old, k e (by simp) _ s3⟩
  item := by
    intro X hP hw hK hc i pins s σ H E I hf st hg
    subst hP; subst hw; subst hK
    obtain ⟨hj, hne, old, he⟩ := st
    obtain ⟨vs, x, hq, hx⟩ := hg
    obtain ⟨its, rv, pt, _⟩ := I.tuple hq
    obtain ⟨u, hu, ru⟩ := rv.get hx
    have hul : i < its.toArray.size := by
      obtain ⟨z, _⟩ := List.getElem?_eq_some_iff.mp hu
      simpa using z
    have pt' : s.heap.IsTuple a its.toArray := pt
    have ha1 : a ≠ j := fun z => by
      obtain ⟨o1, e1, c1, _⟩ := pt'
      obtain ⟨o2, e2, c2, _⟩ := hj
      rw [z] at e1; rw [e1] at e2; cases e2; rw [c1] at c2
      exact absurd (Value.type.inj c2) (by decide)
    have ha2 : e ≠ a := fun z => by
      obtain ⟨o1, e1, c1, _⟩ := pt'
      have he2 := he
      unfold IsEnum at he2
      rw [z, e1] at he2; cases he2
      exact absurd (Value.type.inj c1) (by decide)
    have hel : e < s.heap.objs.size := Heap.lt_size he
    have hjl : j < s.heap.objs.size := by obtain ⟨_, q, _⟩ := hj; exact Heap.lt_size q
    refine wpAny_pyNext_enum_itemD (Draws.tuple (show X.A.in1.handled = none from I.ok.hd hc) j a ha1 its.toArray) he ⟨hj, pt'⟩ hul hne (by simp [hne, ha2]) fun y h1 tk hy ho st1 hT hsz hk => ?_
    have hyu : y = u := by
      have e1 : its[i]? = some y := by simpa using hy
      rw [hu] at e1; exact (Option.some.inj e1).symm
    subst hyu
    refine ⟨_, rfl, wpAny_letOwnedTupleGo_enum (s := { s with heap := h1, toks := tk + 1 }) ho fun h2 he2 sb => ?_⟩
    have hT2 : h2.get? s.heap.objs.size = some { cls := .type "tuple", data := .seq #[.int i tk, y] } := (sb.2 _ (Nat.ne_of_gt hel)).trans hT
    have ok2 : ObjOk X.prog X.w (upd H s.heap.objs.size (.tup [.int (i : Nat), x])) h2 s.heap.objs.size (.tup [.int (i : Nat), x]) :=
      ⟨show 2 ≤ sizeLine by decide, [.int i tk, y], .cons ⟨_, rfl⟩ (.cons ru .nil), _, hT2, rfl, _, rfl⟩
    have I2 : Inv X pins σ (upd H s.heap.objs.size (.tup [.int (i : Nat), x])) { s with heap := h2, toks := tk + 1 } :=
      I.turnedNew (ch := [e, j]) (fun b ob hb q => by
        have n1 : b ≠ e := fun z => hb (by simp [z])
        have n2 : b ≠ j := fun z => hb (by simp [z])
        exact (sb.2 b n1).trans (hk b ob n1 n2 q)) hf (Nat.le_refl _) ok2
    refine ⟨.ref s.heap.objs.size, _, I2, rfl, ⟨_, x, rfl, I.hok.fresh (Nat.le_refl _), fun ys hy => by rw [I.tuple_inj hy hq]; exact hx, rfl⟩, ⟨st1.1.at fun o q => (sb.2 j (Ne.symm hne)).trans q, hne, y, ?_⟩, fun b hb => ?_⟩
    · rw [show ((i + 1 : Nat) : Int) = (i : Int) + 1 by omega]
      exact he2
    · have hb2 : b < s.heap.objs.size := by
        rcases List.mem_cons.mp hb with rfl | hb
        · exact hel
        · rw [List.mem_singleton.mp hb]; exact hjl
      rw [upd_ne (Nat.ne_of_lt hb2)]
      exact (hf b hb).1
  done := by
    intro X hP hw hK hc i pins s σ H E I hf st hg
    subst hP; subst hw; subst hK
    obtain ⟨hj, hne, old, he⟩ := st
    obtain ⟨vs, hq, hx⟩ := hg
    obtain ⟨its, rv, pt, _⟩ := I.tuple hq
    have hl := rv.length
    have pt' : s.heap.IsTuple a its.toArray := pt
    have ha1 : a ≠ j := fun z => by
      obtain ⟨o1, e1, c1, _⟩ := pt'
      obtain ⟨o2, e2, c2, _⟩ := hj
      rw [z] at e1; rw [e1] at e2; cases e2; rw [c1] at c2
      exact absurd (Value.type.inj c2) (by decide)
    have hn : its.toArray.size = i := by simp; omega
    obtain ⟨f0, f1, f2, f3, f4, f5⟩ := hf j (by simp)
    refine wpAny_pyNext_enum_endD (Draws.tuple (show X.A.in1.handled = none from I.ok.hd hc) j a ha1 its.toArray) he (by rw [hn]; exact ⟨hj, pt'⟩) fun h1 eb => ⟨rfl, ?_⟩
    exact I.turned (t' := s.toks) (fun b o hb q => eb b o hb q) f0 f1 f3 f4 f5
  self := fun A i s Q E st h => by
    obtain ⟨_, _, _, he⟩ := st
    exact wpAny_pyIter_enum he h
abbrev tupIt (a : Addr) : Obj := { cls := .type "tuple_iterator", data := .fields #[.ref a, .int 0 0] }
abbrev numOb (j : Addr) : Obj := { cls := .type "enumerate", data := .fields #[.none, .bool false, .ref j, rawInt 0, .none, .none] }
theorem meets_num (a : Addr) (items : Array Value) : Meets (Builtin.«enumerate.__new__» ⟨[.type "enumerate", .ref a], []⟩) (fun _ R s => s.heap.IsTuple a items ∧
    R (.ok (.ret (.ref (s.heap.push (tupIt a)).objs.size))) { s with heap := (s.heap.push (tupIt a)).push (numOb s.heap.objs.size) }) := .of_wp fun prog w A R s h => by
  obtain ⟨hp, g, d, tk, os⟩ := s
  obtain ⟨hT, h⟩ := h
  have known := sub_enumerate
  have it1 : ∀ {A' : Around} {E : Value → Shared → Prop} {Q : Value → Shared → Prop}, Q (.ref hp.objs.size) ⟨hp.push (tupIt a), g, d, tk, os⟩ → wpAny (model prog w) A' (pyIter (.ref a)) Q E ⟨hp, g, d, tk, os⟩ := fun q => wpAny_pyIter_tuple hT q
  wp_walk using it1
  refine wpAny_stack_any fun _ => wpAny_pure ?_
  split
  · rename_i c _ _ _ _ _
    cases (c == Value.type "enumerate") <;> (wp_walk using it1; exact ⟨_, rfl, h⟩)
  · wp_walk using it1
    exact ⟨_, rfl, h⟩
theorem call_num {prog : Program} {w : World} {A : Around} {E : Value → Shared → Prop} {s : Shared} {a : Addr} {items : Array Value} {Q : Value → Shared → Prop} (hT : s.heap.IsTuple a items)
    (h : ∀ h1, h1.IsTupleIter s.heap.objs.size a 0 → IsEnum h1 (s.heap.objs.size + 1) s.heap.objs.size 0 .none → (∀ b o, s.heap.get? b = some o → h1.get? b = some o) → Q (.ref (s.heap.objs.size + 1)) { s with heap := h1 }) :
    wpAny (model prog w) A (call (.type "enumerate") [.ref a]) Q E s := by
  refine callType_new F.called_enumerate (by decide) (F.typeCall_enumerate_1 _) (F.newCall_enumerate_1 _) (fun obj => F.args_object_init_2 obj _) F.entry_enumerate_new (meets_num a items) ⟨hT, ?_⟩
  have z1 : (s.heap.push (tupIt a)).objs.size = s.heap.objs.size + 1 := Heap.size_push ..
  have e1 := Heap.get?_push_size (s.heap.push (tupIt a)) (o := numOb s.heap.objs.size) rfl
  rw [z1] at e1
  show _ ∧ _
  rw [z1]
  have e2 : IsEnum ((s.heap.push (tupIt a)).push (numOb s.heap.objs.size)) (s.heap.objs.size + 1) s.heap.objs.size 0 .none := e1
  exact ⟨⟨_, e2, rfl⟩, h _ ⟨_, Heap.get?_push_of_some _ (Heap.get?_push_size _ rfl), rfl, rfl⟩ e2 fun b o x => Heap.get?_push_of_some _ (Heap.get?_push_of_some _ x)⟩
/-- a list or a tuple, numbered -/
theorem pi_num {X : Cx} {e : Expr} {ta : L2.TA} {p pos p2 : Pos} {es : List Expr} {k2 : Nat} (hg : Gl X "enumerate") (hm : X.mg "enumerate" = none) (ha : L2.PA X [e] ta) (hs : starEach [e] X.env = [(false, eval e X.env)] := by rfl) :
    L2.PI X (.Tuple es k2 p2) (.Call (.Name "enumerate" p) [e] [] pos) (fun σ H R => ta σ H fun vs H1 => ∃ a, vs = [.ref a] ∧ ((∃ xs, SqL X.K H1 a xs) ∧ R (Ite X.K a) H1 ∨ (∃ xs, SqT X.K H1 a xs) ∧ R (ItN X.K a) H1)) := by
  constructor
  intro pins s σ H R I h
  refine Call_ (ld_blt I hg hm boot_enumerate (PyProof.Rows.callWith_type1 (thn (ha.run pos pins s σ H _ I h) ?_) hs rfl))
  rintro us s1 ⟨vs, H1, I1, r1, a, rfl, q⟩
  cases r1 with
  | cons r rr =>
    cases rr
    cases r
    have two : ∀ b ∈ [s1.heap.objs.size + 1, s1.heap.objs.size], FpOk X pins H1 b := fun b hb => by
      have hle : s1.heap.objs.size ≤ b := by
        rcases List.mem_cons.mp hb with rfl | hb
        · exact Nat.le_succ _
        · rw [List.mem_singleton.mp hb]; exact Nat.le_refl _
      exact I1.fpOk hle (I1.hok.fresh hle)
    rcases q with ⟨⟨xs, hq⟩, q⟩ | ⟨⟨xs, hq⟩, q⟩
    · obtain ⟨its, rv, pt, _⟩ := I1.list hq
      refine call_enumerate_list pt.isList fun h1 he hj hsz hk => wpAny_pyIter_enum he ?_
      exact ⟨_, _, _, _, H1, rfl, I1.kept (t' := s1.toks) hk, turn_enum a _ _, ⟨⟨.none, he⟩, hj, Nat.succ_ne_self _⟩, two, q⟩
    · obtain ⟨its, rv, pt, _⟩ := I1.tuple hq
      refine call_num (show s1.heap.IsTuple a its.toArray from pt) fun h1 hj he hk => wpAny_pyIter_enum he ?_
      exact ⟨_, _, _, _, H1, rfl, I1.kept (t' := s1.toks) hk, turn_numT a _ _, ⟨hj, Nat.succ_ne_self _, .none, he⟩, two, q⟩
theorem pairUp_len : ∀ {as bs : List D}, as.length = bs.length → (pairUp as bs).length = bs.length
  | [], [], _ => rfl
  | _ :: as, _ :: bs, h => by
    show (pairUp as bs).length + 1 = bs.length + 1
    rw [pairUp_len (by simpa using h)]
theorem pairUp_get : ∀ {as bs : List D} {i : Nat} {d : D}, (pairUp as bs)[i]? = some d → ∃ a b, as[i]? = some a ∧ bs[i]? = some b ∧ d = .tuple [a, b]
  | [], _, _, _, h => by simp [pairUp] at h
  | _ :: _, [], _, _, h => by simp [pairUp] at h
  | a :: as, b :: bs, 0, d, h => ⟨a, b, rfl, rfl, by simpa [pairUp] using h.symm⟩
  | a :: as, b :: bs, i + 1, d, h => pairUp_get (as := as) (bs := bs) (by simpa [pairUp] using h)
theorem num_get {ds : List D} {i : Nat} {d : D} (h : (pairUp (upTo 0 ds.length) ds)[i]? = some d) : ∃ b, ds[i]? = some b ∧ d = .tuple [.int i, b] := by
  obtain ⟨a, b, h1, h2, rfl⟩ := pairUp_get h
  obtain ⟨_, rfl⟩ := upTo_get _ _ _ _ h1
  exact ⟨b, h2, by rw [Int.zero_add]⟩
theorem num_len (ds : List D) : (pairUp (upTo 0 ds.length) ds).length = ds.length := pairUp_len (upTo_len _ _)
/-- a new pair is frozen at once -/
theorem pair_frz {K : PySem.W.Frag} {g : Gh} {H : Hp} {T : Addr} {u v : V} {a b : D} (w : WFg K g H) (n : H T = none) (r1 : Rp K g.G u a) (r2 : Rp K g.G v b) : ∃ g', Ext K g H g' (upd H T (.tup [u, v])) ∧ Rp K g'.G (.ref T) (.tuple [a, b]) := by
  have e : Ext K g H ⟨upd g.G T (.tup [u, v]), g.Dr⟩ (upd H T (.tup [u, v])) := Ext.frozenNew w n
  exact ⟨_, e, .tup (.inl (.inl upd_same)) (.cons (r1.sub e.gg) (.cons (r2.sub e.gg) .nil))⟩
theorem wk_numT {K : PySem.W.Frag} {G : Hp} {p : Addr} {vs : List V} {ds : List D} {S : Gh → Hp → Prop} (r : RpL K G vs ds) (hs : SqT K G p vs) (h : ∀ g H, WFg K g H → S g H → Sub G g.G) : Wk K (ItN K p) (pairUp (upTo 0 ds.length) ds) S := fun g H w s => by
  have h1 := h g H w s
  have h2 : SqT K H p vs := SqT.sub (h1.trans w.sub) hs
  refine ⟨fun i d q => ?_, vs, h2, by rw [num_len, r.len]⟩
  obtain ⟨b, q1, rfl⟩ := num_get q
  obtain ⟨v, e2, _⟩ := r.get q1
  refine ⟨⟨vs, v, h2, e2⟩, fun x H' y => ?_⟩
  obtain ⟨T, x, rfl, n, y, rfl⟩ := y
  exact pair_frz w n (.int _) ((getV_of r q1 (y vs h2)).sub h1)
theorem wk_numL {K : PySem.W.Frag} {G : Hp} {p : Addr} {vs : List V} {ds : List D} {S : Gh → Hp → Prop} (r : RpL K G vs ds) (h : ∀ g H, WFg K g H → S g H → Sub G g.G ∧ SqL K H p vs) : Wk K (Ite K p) (pairUp (upTo 0 ds.length) ds) S := fun g H w s => by
  obtain ⟨h1, h2⟩ := h g H w s
  refine ⟨fun i d q => ?_, vs, h2, by rw [num_len, r.len]; exact Nat.le_refl _⟩
  obtain ⟨b, q1, rfl⟩ := num_get q
  obtain ⟨v, e2, _⟩ := r.get q1
  refine ⟨⟨vs, v, h2, e2⟩, fun x H' y => ?_⟩
  obtain ⟨T, x, rfl, n, rfl, y⟩ := y
  exact pair_frz w n (.int _) ((getV_of r q1 (y vs h2)).sub h1)
section
variable {X : Cx} {κ : Cls} {W : XK} {pos : Pos} {tg a b c e : Expr} {ta tb tc : uE} {es : List Expr} {k2 : Nat} {p p2 : Pos}
theorem ji_num (hg : Gl X "enumerate") (hm : X.mg "enumerate" = none) (ha : JE X κ W e ta) (hs : starEach [e] X.env = (false, eval e X.env) :: starEach [] X.env := by rfl) (hs1 : starEach [e] X.env = [(false, eval e X.env)] := by rfl) : JI X κ W (.Tuple es k2 p2) (.Call (.Name "enumerate" p) [e] [] pos) (i_num ta) :=
  PI.weak (pi_num hg hm (pa_cons ha pa_nil hs) hs1) fun σ H R ⟨g0, H0, g, ρ, P, x, L, q, hR, hx⟩ => by
  refine ⟨g0, H0, g, ρ, _, x, L, q, fun g1 H1 v d e1 r1 q1 => ?_, hx⟩
  unfold seqQ at q1
  split at q1
  · cases r1 with
    | lst hs r => exact ⟨_, rfl, .inl ⟨⟨_, SqL.of (e1.wf.sub _ _ hs)⟩, hR g1 H1 _ _ e1 (wk_numL r fun g H w s => ⟨s, SqL.of (w.sub _ _ (s _ _ hs))⟩) q1⟩⟩
  · cases r1 with
    | tup hs r => exact ⟨_, rfl, .inr ⟨⟨_, SqT.sub e1.wf.sub hs⟩, hR g1 H1 _ _ e1 (wk_numT r hs fun g H w s => s) q1⟩⟩
  · exact q1.elim
end
end PL

namespace PL
open PySem PySem.Spec PyProof.Rows L2
/-! ### zip of lists and tuples -/
def isI (b : Bool) (h : Heap) (j a : Addr) (i : Nat) : Prop := match b with | true => h.IsListIter j a i | false => h.IsTupleIter j a i
def isS (b : Bool) (h : Heap) (a : Addr) (items : Array Value) : Prop := match b with | true => h.IsList a items | false => h.IsTuple a items
def sqS (b : Bool) (K : PySem.W.Frag) (H : Hp) (a : Addr) (vs : List V) : Prop := match b with | true => SqL K H a vs | false => SqT K H a vs
def obS (b : Bool) (a : Addr) : Obj := match b with | true => { cls := .type "list_iterator", data := .fields #[.ref a, .int 0 0] } | false => tupIt a
theorem drawsS {prog : Program} {w : World} {A : Around} (b : Bool) (hh : A.handled = none) (j a : Addr) (hne : a ≠ j) (items : Array Value) :
    Draws prog w A j [j, a] items.size (fun i v => items[i]? = some v) (fun i h => isI b h j a i ∧ isS b h a items) := by
  cases b
  · exact Draws.tuple hh j a hne items
  · exact Draws.list hh j a hne items
theorem beginsS (b : Bool) (a : Addr) (items : Array Value) : Begins (.ref a) (obS b a) fun h => isS b h a items := by
  cases b
  · exact begins_tuple a items
  · exact begins_list a items
theorem isI.at' {b : Bool} {h h' : Heap} {j a : Addr} {i : Nat} (x : isI b h j a i) (k : ∀ o, h.get? j = some o → h'.get? j = some o) : isI b h' j a i := by
  cases b
  · exact Heap.IsTupleIter.at x k
  · exact Heap.IsListIter.at x k
theorem isI.get {b : Bool} {h : Heap} {j a : Addr} {i : Nat} (x : isI b h j a i) : ∃ o, h.get? j = some o ∧ ∀ v, o.data ≠ .cell v := by
  cases b
  · obtain ⟨o, e, _, d⟩ := x
    exact ⟨o, e, fun v q => by rw [d] at q; cases q⟩
  · obtain ⟨o, e, _, d⟩ := x
    exact ⟨o, e, fun v q => by rw [d] at q; cases q⟩
theorem isI.new {b : Bool} {h : Heap} {j a : Addr} (x : h.get? j = some (obS b a)) : isI b h j a 0 := by
  cases b
  · exact ⟨_, x, rfl, rfl⟩
  · exact ⟨_, x, rfl, rfl⟩
theorem isS.lt {b : Bool} {h : Heap} {a : Addr} {items : Array Value} (x : isS b h a items) : a < h.objs.size := by
  cases b
  · obtain ⟨o, e, _⟩ := x; exact Heap.lt_size e
  · obtain ⟨o, e, _⟩ := x; exact Heap.lt_size e
theorem seqS {X : Cx} {pins : List (Addr × Obj)} {σ : L2.St} {H : Hp} {s : Shared} (I : Inv X pins σ H s) {b : Bool} {a : Addr} {vs : List V} (h : sqS b X.K H a vs) : ∃ its : List Value, Vals vs its ∧ isS b s.heap a its.toArray := by
  cases b
  · obtain ⟨its, rv, p, _⟩ := I.tuple h
    exact ⟨its, rv, p⟩
  · obtain ⟨its, rv, p, _⟩ := I.list h
    exact ⟨its, rv, p.isList⟩
theorem sqS_inj {X : Cx} {pins : List (Addr × Obj)} {σ : L2.St} {H : Hp} {s : Shared} (I : Inv X pins σ H s) {b : Bool} {a : Addr} {vs ws : List V} (h : sqS b X.K H a vs) (k : sqS b X.K H a ws) : vs = ws := by
  cases b
  · exact I.tuple_inj h k
  · exact I.list_inj h k
def ItZ (K : PySem.W.Frag) (b c : Bool) (x y : Addr) : It where
  go i H := ∃ (vs ws : List V) (v w : V), sqS b K H x vs ∧ sqS c K H y ws ∧ vs[i]? = some v ∧ ws[i]? = some w
  yld i H r H' := ∃ T v w, r = .ref T ∧ H T = none ∧ (∀ vs, sqS b K H x vs → vs[i]? = some v) ∧ (∀ ws, sqS c K H y ws → ws[i]? = some w) ∧ H' = upd H T (.tup [v, w])
  stop i H := ∃ vs ws : List V, sqS b K H x vs ∧ sqS c K H y ws ∧ i ≤ vs.length ∧ i ≤ ws.length ∧ (i = vs.length ∨ i = ws.length)
theorem turn_Z {P : Program} {w : World} {K : PySem.W.Frag} {es : List Expr} {k2 : Nat} {p2 : Pos} (b c : Bool) {x y z TI TO i1 i2 : Addr} (D : ZipSep2 z TI TO i1 i2 [i1, x] [i2, y]) (n1 : x ≠ i1) (n2 : y ≠ i2) :
    Turn P w K (.Tuple es k2 p2) (ItZ K b c x y) [z, TI, TO, i1, i2] z (fun i h => isI b h i1 x i ∧ isI c h i2 y i ∧ IsZip h z TI TO .none ∧ IsTupOf2 h TI (.ref i1) (.ref i2) ∧ ∃ u v, IsTupOf2 h TO u v) where
  mem := List.mem_cons_self
  obj := fun i h st q hq => by
    obtain ⟨s1, s2, s3, s4, u, v, s5⟩ := st
    have e' : q = z ∨ q = TI ∨ q = TO ∨ q = i1 ∨ q = i2 := by simpa using hq
    rcases e' with rfl | rfl | rfl | rfl | rfl
    · exact ⟨_, s3, fun v q => nomatch q⟩
    · exact ⟨_, s4, fun v q => nomatch q⟩
    · exact ⟨_, s5, fun v q => nomatch q⟩
    · exact s1.get
    · exact s2.get
  keep := fun i h h' st k => by
    obtain ⟨s1, s2, s3, s4, u, v, s5⟩ := st
    exact ⟨s1.at' fun o q => k i1 (by simp) o q, s2.at' fun o q => k i2 (by simp) o q, k z (by simp) _ s3, k TI (by simp) _ s4, u, v, k TO (by simp) _ s5⟩
  item := by
    intro X hP hw hK hc i pins s σ H E I hf st hg
    subst hP; subst hw; subst hK
    obtain ⟨s1, s2, s3, s4, u0, v0, s5⟩ := st
    obtain ⟨vs, ws, v, w', hq1, hq2, hv, hw'⟩ := hg
    obtain ⟨its1, rv1, p1⟩ := seqS I hq1
    obtain ⟨its2, rv2, p2⟩ := seqS I hq2
    obtain ⟨u1, hu1, ru1⟩ := rv1.get hv
    obtain ⟨u2, hu2, ru2⟩ := rv2.get hw'
    have l1 : i < its1.toArray.size := by obtain ⟨q, _⟩ := List.getElem?_eq_some_iff.mp hu1; simpa using q
    have l2 : i < its2.toArray.size := by obtain ⟨q, _⟩ := List.getElem?_eq_some_iff.mp hu2; simpa using q
    have hz : z < s.heap.objs.size := Heap.lt_size s3
    have hh : X.A.in1.handled = none := I.ok.hd hc
    refine wpAny_pyNext_zipD2_item D (drawsS b hh i1 x n1 its1.toArray) (drawsS c hh i2 y n2 its2.toArray) s3 s4 s5 ⟨s1, p1⟩ ⟨s2, p2⟩ l1 l2 fun a1 a2 h1 tk e1 e2 z1 t1 st1 st2 T1 hsz hk => ?_
    have lt : ∀ {q : Addr} {o : Obj}, s.heap.get? q = some o → s.heap.objs.size ≠ q := fun e => Nat.ne_of_gt (Heap.lt_size e)
    refine ⟨_, rfl, wpAny_letOwnedTupleGo_zip (s := { s with heap := h1, toks := tk }) z1 fun h2 z2 sb => ?_⟩
    have T2 : h2.get? s.heap.objs.size = some { cls := .type "tuple", data := .seq #[a1, a2] } := (sb.2 _ (lt s3)).trans T1
    have ea1 : a1 = u1 := by
      have q : its1[i]? = some a1 := by simpa using e1
      rw [hu1] at q; exact (Option.some.inj q).symm
    have ea2 : a2 = u2 := by
      have q : its2[i]? = some a2 := by simpa using e2
      rw [hu2] at q; exact (Option.some.inj q).symm
    subst ea1; subst ea2
    have ok2 : ObjOk X.prog X.w (upd H s.heap.objs.size (.tup [v, w'])) h2 s.heap.objs.size (.tup [v, w']) :=
      ⟨show 2 ≤ sizeLine by decide, [a1, a2], .cons ru1 (.cons ru2 .nil), _, T2, rfl, _, rfl⟩
    have I2 : Inv X pins σ (upd H s.heap.objs.size (.tup [v, w'])) { s with heap := h2, toks := tk } :=
      I.turnedNew (ch := [z, TI, TO, i1, i2]) (fun q ob hq e => by
        have m : q ≠ z ∧ q ≠ TI ∧ q ≠ TO ∧ q ≠ i1 ∧ q ≠ i2 := by simpa using hq
        exact (sb.2 q m.1).trans (hk q ob m.1 m.2.2.1 m.2.2.2.1 m.2.2.2.2 e)) hf (Nat.le_refl _) ok2
    refine ⟨.ref s.heap.objs.size, _, I2, rfl, ⟨_, v, w', rfl, I.hok.fresh (Nat.le_refl _), fun ys hy => by rw [sqS_inj I hy hq1]; exact hv, fun ys hy => by rw [sqS_inj I hy hq2]; exact hw', rfl⟩, ?_, fun q hq => ?_⟩
    · refine ⟨st1.1.at' fun o q => (sb.2 _ (Ne.symm D.zi1)).trans q, st2.1.at' fun o q => (sb.2 _ (Ne.symm D.zi2)).trans q, z2, ?_, a1, a2, ?_⟩
      · exact (sb.2 _ D.TIz).trans (hk _ _ D.TIz D.TITO D.TIi1 D.TIi2 s4)
      · exact (sb.2 _ D.TOz).trans t1
    · have hl : q < s.heap.objs.size := by
        have e' : q = z ∨ q = TI ∨ q = TO ∨ q = i1 ∨ q = i2 := by simpa using hq
        rcases e' with rfl | rfl | rfl | rfl | rfl
        · exact hz
        · exact Heap.lt_size s4
        · exact Heap.lt_size s5
        · obtain ⟨_, e, _⟩ := s1.get; exact Heap.lt_size e
        · obtain ⟨_, e, _⟩ := s2.get; exact Heap.lt_size e
      rw [upd_ne (Nat.ne_of_lt hl)]
      exact (hf q hq).1
  done := by
    intro X hP hw hK hc i pins s σ H E I hf st hg
    subst hP; subst hw; subst hK
    obtain ⟨s1, s2, s3, s4, u0, v0, s5⟩ := st
    obtain ⟨vs, ws, hq1, hq2, m1, m2, m3⟩ := hg
    obtain ⟨its1, rv1, p1⟩ := seqS I hq1
    obtain ⟨its2, rv2, p2⟩ := seqS I hq2
    have l1 := rv1.length
    have l2 := rv2.length
    have hh : X.A.in1.handled = none := I.ok.hd hc
    refine wpAny_pyNext_zipD2_end D (drawsS b hh i1 x n1 its1.toArray) (drawsS c hh i2 y n2 its2.toArray) s3 s4 s5 ⟨s1, p1⟩ ⟨s2, p2⟩ (by simp; omega) (by simp; omega) (by simp; omega) fun h1 tk hk => ⟨rfl, ?_⟩
    refine I.turnedL (t' := tk) (ch := [z, TI, TO, i1, i2]) (fun q o hq e => ?_) hf
    have m : q ≠ z ∧ q ≠ TI ∧ q ≠ TO ∧ q ≠ i1 ∧ q ≠ i2 := by simpa using hq
    exact hk q o m.1 m.2.2.1 m.2.2.2.1 m.2.2.2.2 e
  self := fun A i s Q E st h => wpAny_pyIter_zip st.2.2.1 h
theorem pi_Z {X : Cx} {e e2 : Expr} {ta : L2.TA} {p pos p2 : Pos} {es : List Expr} {k2 : Nat} (hg : Gl X "zip") (hm : X.mg "zip" = none) (ha : L2.PA X [e, e2] ta) (hs : starEach [e, e2] X.env = (false, eval e X.env) :: starEach [e2] X.env := by rfl) (hpl : (backTo pos (starEach [e2] X.env)).any (·.1) = false := by rfl) :
    L2.PI X (.Tuple es k2 p2) (.Call (.Name "zip" p) [e, e2] [] pos) (fun σ H R => ta σ H fun vs H1 => ∃ x y b c, vs = [.ref x, .ref y] ∧ (∃ xs, sqS b X.K H1 x xs) ∧ (∃ ys, sqS c X.K H1 y ys) ∧ R (ItZ X.K b c x y) H1) := by
  constructor
  intro pins s σ H R I h
  refine Call_ (ld_blt I hg hm PyProof.Rows.boot_zip (PyProof.Rows.callWith_type1 (thn (ha.run pos pins s σ H _ I h) ?_) hs hpl))
  rintro us s1 ⟨vs, H1, I1, r1, x, y, b, c, rfl, ⟨xs, hq1⟩, ⟨ys, hq2⟩, q⟩
  cases r1 with
  | cons r rr =>
    cases rr with
    | cons r' rr =>
      cases rr; cases r; cases r'
      obtain ⟨its1, rv1, q1⟩ := seqS I1 hq1
      obtain ⟨its2, rv2, q2⟩ := seqS I1 hq2
      have l1 := q1.lt
      have l2 := q2.lt
      refine zip_begins2 (beginsS b x its1.toArray) (beginsS c y its2.toArray) q1 q2 fun h1 z1 z2 z3 g1 g2 hsz hk => wpAny_pyIter_zip z1 ?_
      refine ⟨_, _, _, _, H1, rfl, I1.kept (t' := s1.toks) hk, turn_Z b c (zip_sep2 (N := s1.heap.objs.size) (fp1 := [x]) (fp2 := [y]) (fun b hb => by rw [List.mem_singleton.mp hb]; exact l1) (fun b hb => by rw [List.mem_singleton.mp hb]; exact l2)) (Nat.ne_of_lt l1) (Nat.ne_of_lt (Nat.lt_succ_of_lt l2)), ⟨isI.new g1, isI.new g2, z1, z2, _, _, z3⟩, fun k hk => ?_, q⟩
      have hle : s1.heap.objs.size ≤ k := by
        simp only [List.mem_cons, List.not_mem_nil, or_false] at hk
        rcases hk with rfl | rfl | rfl | rfl | rfl
        · exact Nat.le_add_right _ _
        · exact Nat.le_add_right _ _
        · exact Nat.le_add_right _ _
        · exact Nat.le_refl _
        · exact Nat.le_add_right _ _
      exact I1.fpOk hle (I1.hok.fresh hle)
theorem seq_of {K : PySem.W.Frag} {G : Hp} {v : V} {d : D} {Q : List D → Prop} (r : Rp K G v d) (q : seqQ Q d) : ∃ b a vs ds, v = .ref a ∧ RpL K G vs ds ∧ Q ds ∧ ∀ H, Sub G H → sqS b K H a vs := by
  unfold seqQ at q
  split at q
  · cases r with
    | lst hs r => exact ⟨true, _, _, _, rfl, r, q, fun H s => SqL.of (s _ _ hs)⟩
  · cases r with
    | tup hs r => exact ⟨false, _, _, _, rfl, r, q, fun H s => SqT.sub s hs⟩
  · exact q.elim
theorem pairUp_min : ∀ {as bs : List D}, (pairUp as bs).length ≤ as.length ∧ (pairUp as bs).length ≤ bs.length ∧ ((pairUp as bs).length = as.length ∨ (pairUp as bs).length = bs.length)
  | [], _ => by simp [pairUp]
  | _ :: _, [] => by simp [pairUp]
  | a :: as, b :: bs => by
    have := pairUp_min (as := as) (bs := bs)
    simp only [pairUp, List.length_cons]
    omega
theorem wk_Z {K : PySem.W.Frag} {G : Hp} {b c : Bool} {x y : Addr} {vs ws : List V} {ds es : List D} {S : Gh → Hp → Prop} (r1 : RpL K G vs ds) (r2 : RpL K G ws es) (k1 : ∀ H, Sub G H → sqS b K H x vs) (k2 : ∀ H, Sub G H → sqS c K H y ws) (h : ∀ g H, WFg K g H → S g H → Sub G g.G) : Wk K (ItZ K b c x y) (pairUp ds es) S := fun g H w s => by
  have h1 := h g H w s
  have q1 := k1 H (h1.trans w.sub)
  have q2 := k2 H (h1.trans w.sub)
  refine ⟨fun i d q => ?_, vs, ws, q1, q2, ?_⟩
  · obtain ⟨d1, d2, e1, e2, rfl⟩ := pairUp_get q
    obtain ⟨v1, f1, _⟩ := r1.get e1
    obtain ⟨v2, f2, _⟩ := r2.get e2
    refine ⟨⟨vs, ws, v1, v2, q1, q2, f1, f2⟩, fun u H' y => ?_⟩
    obtain ⟨T, a1, a2, rfl, n, y1, y2, rfl⟩ := y
    exact pair_frz w n ((getV_of r1 e1 (y1 vs q1)).sub h1) ((getV_of r2 e2 (y2 ws q2)).sub h1)
  · have := pairUp_min (as := ds) (bs := es)
    rw [r1.len, r2.len]
    exact this
section
variable {X : Cx} {κ : Cls} {W : XK} {pos : Pos} {tg a b c e : Expr} {ta tb tc : uE} {es : List Expr} {k2 : Nat} {p p2 : Pos}
theorem ji_zip2 (hg : Gl X "zip") (hm : X.mg "zip" = none) (ha : JE X κ W a ta) (hb : JE X κ W b tb) (hs : starEach [a, b] X.env = (false, eval a X.env) :: starEach [b] X.env := by rfl) (hs2 : starEach [b] X.env = (false, eval b X.env) :: starEach [] X.env := by rfl) (hpl : (backTo pos (starEach [b] X.env)).any (·.1) = false := by rfl) :
    JI X κ W (.Tuple es k2 p2) (.Call (.Name "zip" p) [a, b] [] pos) (i_zip2 ta tb) :=
  PI.weak (pi_Z hg hm (pa_cons ha (pa_cons hb pa_nil hs2) hs) hs hpl) fun σ H R ⟨g0, H0, g, ρ, P, x, L, q, hR, hx⟩ => by
  refine ⟨g0, H0, g, ρ, _, x, L, q, fun g1 H1 v d e1 r1 q1 => ?_, hx⟩
  obtain ⟨b1, a1, vs, ds, rfl, rl1, q1, k1⟩ := seq_of r1 q1
  refine ⟨g0, H0, g1, ρ, _, x, L.ext e1, q1, fun g2 H2 v d e2 r2 q2 => ?_, hx⟩
  obtain ⟨b2, a2, ws, es', rfl, rl2, q2, k2⟩ := seq_of r2 q2
  have e12 := e1.trans L.wf e2
  have w2 := e2.wf
  exact ⟨a1, a2, b1, b2, rfl, ⟨vs, k1 _ (e2.gg.trans w2.sub)⟩, ⟨ws, k2 _ w2.sub⟩, hR g2 H2 _ _ e12 (wk_Z (rl1.sub e2.gg) rl2 (fun H s => k1 H (e2.gg.trans s)) k2 fun g H w s => s) q2⟩
end
end PL

namespace PL
open PySem PySem.Spec PyProof.Rows L2
theorem RpL.eraseIdx {K : PySem.W.Frag} {G : Hp} : ∀ {ds : List D} {vs : List V} (n : Nat), RpL K G vs ds → RpL K G (vs.eraseIdx n) (ds.eraseIdx n)
  | _, _, _, .nil => .nil
  | _, _, 0, .cons _ t => t
  | _, _, n + 1, .cons r t => .cons r (RpL.eraseIdx n t)
section
variable {X : Cx} {κ : Cls} {W : XK} {pos : Pos} {tg a b c e iter : Expr} {ta tb tc te : uE}
/-- xs.pop(a) as a value -/
theorem pop_core {g0 g : Gh} {H0 H : Hp} {σ : L2.St} {ρ : Env} {i : Nat} {x : EX} {Q : D → Env → Prop} (L : Lk X.K g0 H0 g H σ ρ) (q : popQ i ta ρ Q x) (hx : LX X.K κ g0 H0 x W) {R : V → Hp → Prop}
    (hR : ∀ g2 H2 ρ' v d, Lk X.K g0 H0 g2 H2 σ ρ' → Sub g.G g2.G → Rp X.K g2.G v d → Q d ρ' → R v H2) : ∃ p, σ[i]? = some (some (.ref p)) ∧ (∃ vs, SqL X.K H p vs) ∧ tB X.K κ W ta σ H fun kv H2 => rPopAt (.ref p) [kv] H2 R := by
  obtain ⟨ds, hρ, q⟩ := ownOf_some q
  obtain ⟨p, vs, hσ, n0, n1, n2, hp, r⟩ := L.own hρ
  refine ⟨p, hσ, ⟨_, SqL.of hp⟩, g0, H0, g, ρ, _, x, L, q, fun g2 H2 kv kd e2 rk q2 => ?_, hx⟩
  obtain ⟨z, rfl, ⟨z0, z1⟩, q2⟩ := nOf_int rk q2
  have m := SlR.ext e2 (SlR.own n1 n2 hp r)
  have hp2 := e2.keep _ _ hp n2
  unfold oOf at q2
  split at q2
  · rename_i d hd
    obtain ⟨v, hv, rv⟩ := (r.sub e2.gg).get hd
    have hlt : z.toNat < vs.length := (List.getElem?_eq_some_iff.mp hv).1
    cases m with
    | own m1 m2 m3 mr =>
      refine ⟨p, vs, z, z.toNat, v, rfl, rfl, hp2, by omega, by omega, ?_, hv, ?_⟩
      · unfold seqIndex?
        simp only []
        first
          | (rw [if_pos (by omega)]; done)
          | (split <;> simp_all <;> omega)
          | (simp; omega)
      · exact hR g2 _ _ v d ((L.ext e2).change hρ hσ n0 m1 m2 ((r.sub e2.gg).eraseIdx _)) e2.gg rv q2
  · exact q2.elim
theorem js_pop (i : Nat) {x : Str} {apos cpos p1 : Pos} (hk : JB X κ W a ta) (hN : X.N[i]? = some x := by rfl) (hv : Vis X.env.scope x := by first | exact Or.inl rfl | exact Or.inr (Or.inl rfl) | exact Or.inr (Or.inr rfl)) (hd : (x == ("__debug__" : Str)) = false := by decide)
    (hcd : (x == ("__classdict__" : Str)) = false := by decide) (hse : starEach [a] X.env = (false, eval a X.env) :: starEach [] X.env := by rfl)
    (hbase : attributeBase (.Name x p1) "pop" X.env (eval (.Name x p1) X.env) = eval (.Name x p1) X.env := by rfl)
    (hfew : ((backTo cpos (starEach [a] X.env)).all (fun x => !x.1) && (backToKw cpos (keywordEach [] X.env)).all (fun x => x.1.isSome) && decide (([a] : List Expr).length + ([] : List Keyword).length + (if ([] : List Keyword).isEmpty then 0 else 1) < 30)) = true := by rfl)
    (hline : (apos.endLine == cpos.line) = true := by rfl) (hpl : (backTo cpos (starEach [] X.env)).any (·.1) = false := by rfl)
    (hs : swapsWith (.Call (.Attribute (.Name x p1) "pop" apos) [a] [] cpos) none pos.line X.env = pure false := by rfl) :
    JS X κ W (.Expr (.Call (.Attribute (.Name x p1) "pop" apos) [a] [] cpos) pos) (s_pop i ta) :=
  PS.weak (ps_expr (pe_bm PySem.F.plainAttrs_list PySem.F.slot_list_pop PySem.F.type_list_pop mt_popAt (pe_var hN hv hd hcd) (pa_cons hk pa_nil hse) hbase hfew hline hse hpl) hs) fun E σ H ⟨g0, H0, g, ρ, P, L, q, S⟩ => by
  obtain ⟨p, hσ, ⟨vs, hq⟩, k⟩ := pop_core (R := fun _ H' => E.nx σ H') L q S.ex fun g2 H2 ρ' v d L' s _ q' => S.nx g2 H2 σ ρ' L' s q'
  exact ⟨_, hσ, .inl ⟨rfl, _, hq⟩, k⟩
theorem js_popS (i j : Nat) {y : Str} {p2 : Pos} (hNd : X.N.Nodup) (hj : X.N[j]? = some y) (hy : L2.Loc X.env.scope y) {x : Str} {apos cpos p1 : Pos} (hk : JB X κ W a ta) (hN : X.N[i]? = some x := by rfl) (hv : Vis X.env.scope x := by first | exact Or.inl rfl | exact Or.inr (Or.inl rfl) | exact Or.inr (Or.inr rfl)) (hd : (x == ("__debug__" : Str)) = false := by decide)
    (hcd : (x == ("__classdict__" : Str)) = false := by decide) (hse : starEach [a] X.env = (false, eval a X.env) :: starEach [] X.env := by rfl)
    (hbase : attributeBase (.Name x p1) "pop" X.env (eval (.Name x p1) X.env) = eval (.Name x p1) X.env := by rfl)
    (hfew : ((backTo cpos (starEach [a] X.env)).all (fun x => !x.1) && (backToKw cpos (keywordEach [] X.env)).all (fun x => x.1.isSome) && decide (([a] : List Expr).length + ([] : List Keyword).length + (if ([] : List Keyword).isEmpty then 0 else 1) < 30)) = true := by rfl)
    (hline : (apos.endLine == cpos.line) = true := by rfl) (hpl : (backTo cpos (starEach [] X.env)).any (·.1) = false := by rfl)
    (hs : swapsWith (.Call (.Attribute (.Name x p1) "pop" apos) [a] [] cpos) (some (.Name y p2)) pos.line X.env = pure false := by rfl)
    (hf : X.fn y = true ∨ X.env.scope.names.lookup y = some .local := by first | exact .inl rfl | exact .inr rfl | assumption) :
    JS X κ W (.Assign [.Name y p2] (.Call (.Attribute (.Name x p1) "pop" apos) [a] [] cpos) pos) (s_popS i j ta) :=
  PS.weak (ps_set hNd hj hy (pe_bm PySem.F.plainAttrs_list PySem.F.slot_list_pop PySem.F.type_list_pop mt_popAt (pe_var hN hv hd hcd) (pa_cons hk pa_nil hse) hbase hfew hline hse hpl) hs hf) fun E σ H ⟨g0, H0, g, ρ, P, L, q, S⟩ => by
  obtain ⟨p, hσ, ⟨vs, hq⟩, k⟩ := pop_core (R := fun v H' => E.nx (σ.set j (some v)) H') L q S.ex fun g2 H2 ρ' v d L' s r q' => S.nx g2 H2 _ _ (L'.setVal j r) s q'
  exact ⟨_, hσ, .inl ⟨rfl, _, hq⟩, k⟩
end
end PL

namespace PL
open PySem PySem.Spec PyProof.Rows L2
/-! ### comprehensions with two fors -/
/-- every own list of σ is one of ρ -/
def OwnIn (ρ σ : Env) : Prop := ∀ (j : Nat) (t : Sl), σ[j]? = some t → isOwn t = true → ρ[j]? = some t
theorem OwnIn.refl (ρ : Env) : OwnIn ρ ρ := fun _ _ h _ => h
theorem OwnIn.trans {ρ σ τ : Env} (h : OwnIn ρ σ) (k : OwnIn σ τ) : OwnIn ρ τ := fun j t e o => h j t (k j t e o) o
theorem OwnIn.set (ρ : Env) (i : Nat) (d : D) : OwnIn ρ (ρ.set i (.val d)) := fun j t e o => by
  by_cases hj : i = j
  · subst hj
    obtain ⟨hl, _⟩ := List.getElem?_eq_some_iff.mp e
    rw [List.getElem?_set_self (by simpa using hl)] at e
    cases e; cases o
  · rwa [List.getElem?_set_ne hj] at e
/-- a target sets data only -/
def GV (G : uG) : Prop := ∀ d ρ (P Q : Env → Prop), G d ρ P → (∀ σ, P σ → OwnIn ρ σ → Q σ) → G d ρ Q
def GVs (G : uGs) : Prop := ∀ ds ρ (P Q : Env → Prop), G ds ρ P → (∀ σ, P σ → OwnIn ρ σ → Q σ) → G ds ρ Q
theorem gv_n {i : Nat} : GV (g_n i) := fun d ρ P Q h k => k _ h (OwnIn.set ρ i d)
theorem gv_nil : GVs g_nil := fun ds ρ P Q h k => by
  cases ds with
  | nil => exact k _ h (OwnIn.refl ρ)
  | cons _ _ => exact h.elim
theorem gv_cons {G : uG} {Gs : uGs} (h1 : GV G) (h2 : GVs Gs) : GVs (g_cons G Gs) := fun ds ρ P Q h k => by
  cases ds with
  | nil => exact h.elim
  | cons d ds => exact h1 d ρ _ _ h fun σ q o => h2 ds σ _ _ q fun τ q' o' => k τ q' (o.trans o')
theorem gv_tup {Gs : uGs} (h : GVs Gs) : GV (g_tup Gs) := fun d ρ P Q q k => by
  unfold g_tup at q ⊢
  split at q
  · exact h _ _ _ _ q k
  · exact q.elim
theorem wipe_clean : ∀ (vs : List Nat) (σ : L2.St) (j : Nat), j ∈ vs → ∀ o, (wipe σ vs)[j]? = some o → o = none
  | [], _, _, hj, _, _ => absurd hj (by simp)
  | v :: vs, σ, j, hj, o, ho => by
    have ho : ((wipe σ vs).set v none)[j]? = some o := ho
    by_cases hv : j = v
    · subst hv
      obtain ⟨hl, _⟩ := List.getElem?_eq_some_iff.mp ho
      rw [List.getElem?_set_self (by simpa using hl)] at ho
      cases ho; rfl
    · rw [List.getElem?_set_ne (Ne.symm hv)] at ho
      exact wipe_clean vs σ j ((List.mem_cons.mp hj).resolve_left hv) o ho
theorem wipe_same : ∀ (vs : List Nat) (σ : L2.St) (j : Nat), j ∉ vs → (wipe σ vs)[j]? = σ[j]?
  | [], _, _, _ => rfl
  | v :: vs, σ, j, hj => by
    show ((wipe σ vs).set v none)[j]? = _
    rw [List.getElem?_set_ne (fun e => hj (by rw [e]; exact List.mem_cons_self))]
    exact wipe_same vs σ j fun z => hj (List.mem_cons_of_mem _ z)
theorem wipe_wipe (vs : List Nat) (σ : L2.St) : wipe (wipe σ vs) vs = wipe σ vs := by
  apply List.ext_getElem?
  intro j
  by_cases hj : j ∈ vs
  · cases z : (wipe σ vs)[j]? with
    | none =>
      have l1 : ∀ (vs : List Nat) (σ : L2.St), (wipe σ vs).length = σ.length := by
        intro vs
        induction vs with
        | nil => intro σ; rfl
        | cons v vs ih => intro σ; show ((wipe σ vs).set v none).length = _; rw [List.length_set, ih]
      rw [List.getElem?_eq_none_iff] at z ⊢
      rw [l1]; exact z
    | some o =>
      have ho := wipe_clean vs σ j hj o z
      cases y : (wipe (wipe σ vs) vs)[j]? with
      | none =>
        have l1 : ∀ (vs : List Nat) (σ : L2.St), (wipe σ vs).length = σ.length := by
          intro vs
          induction vs with
          | nil => intro σ; rfl
          | cons v vs ih => intro σ; show ((wipe σ vs).set v none).length = _; rw [List.length_set, ih]
        rw [List.getElem?_eq_none_iff, l1] at y
        obtain ⟨hl, _⟩ := List.getElem?_eq_some_iff.mp z
        omega
      | some p => rw [wipe_clean vs _ j hj p y, ho]
  · exact wipe_same vs _ j hj
/-- a new list that no slot holds is changed -/
theorem Lk.updOther {K : PySem.W.Frag} {g0 g : Gh} {H0 H : Hp} {σ : L2.St} {ρ : Env} (L : Lk K g0 H0 g H σ ρ) {A : Addr} {ob : HO} (n0 : H0 A = none) (n1 : g.G A = none) (n2 : ¬ g.Dr A)
    (hn : ∀ (i : Nat) (o : Option V) (t : Sl), σ[i]? = some o → ρ[i]? = some t → ¬ Own H o t A) : Lk K g0 H0 g (upd H A ob) σ ρ := by
  have ne : ∀ (j : Nat) (o : Option V) (t : Sl), σ[j]? = some o → ρ[j]? = some t → ∀ b, Own H o t b → b ≠ A := fun j o t h1 h2 b h3 z => hn j o t h1 h2 (z ▸ h3)
  exact ⟨L.w0, L.ex.updNew n0 n1 n2, L.len, fun j o t h1 h2 => (L.sl j o t h1 h2).updO (ne j o t h1 h2), fun j o t b h1 h2 h3 => L.fr j o t b h1 h2 (h3.backU (L.sl j o t h1 h2) (ne j o t h1 h2)),
    fun j k o o' t u b hjk h1 h2 h3 h4 h5 h6 => L.di j k o o' t u b hjk h1 h2 (h3.backU (L.sl j o t h1 h2) (ne j o t h1 h2)) h4 h5 (h6.backU (L.sl k o' u h4 h5) (ne k o' u h4 h5))⟩
end PL

namespace PL
open PySem PySem.Spec PyProof.Rows L2
section
variable {X : Cx} {κ : Cls} {W : XK} {pos : Pos} {te : uE} {ti ti1 : uI} {ca ca1 : uC}
theorem keepNew {K : PySem.W.Frag} {ga gb : Gh} {Ha Hb : Hp} {A : Addr} {zs : List V} (e : Ext K ga Ha gb Hb) (m1 : ga.G A = none) (m2 : ¬ ga.Dr A) (m3 : Ha A = some (.lst zs)) : gb.G A = none ∧ ¬ gb.Dr A ∧ Hb A = some (.lst zs) := by
  refine ⟨?_, fun z => ?_, e.keep _ _ m3 m2⟩
  · cases z : gb.G A with
    | none => rfl
    | some u =>
      rcases e.gn A (by rw [z]; simp) with y | y
      · exact absurd m1 y
      · rw [m3] at y; cases y
  · rcases e.dn A z with y | y
    · exact m2 y
    · rw [m3] at y; cases y
theorem tLc2_of {G G1 : uG} {sl sl1 own vs1 : List Nat} (hown : ∀ i ∈ sl, i ∈ own) (hown1 : ∀ i ∈ sl1, i ∈ vs1) (gv : GV G) (σ : L2.St) (H : Hp) (Q : VK) (h : tF X.K κ W (f_lc2 own vs1 ti G ca ti1 G1 ca1 te) σ H Q) :
    L2.tLc2 (tIb X.K κ W ti) (tG X.K sl G) (tC X.K κ E0 ca) (tI X.K κ E0 ti1) (tG X.K sl1 G1) (tC X.K κ E0 ca1) (tE X.K κ E0 te) own vs1 σ H Q := by
  obtain ⟨g0, H0, g, ρ, P, x, L, q, hQ, hx⟩ := h
  refine ⟨g0, H0, g, ρ, _, x, L, q, fun g1 H1 J ds e1 wk q1 => ?_, hx⟩
  have L1 := (L.ext e1).wipe own
  intro Dn nD
  have wf1 := e1.wf
  refine ⟨fun i m Hi => m = ds.length - i ∧ i ≤ ds.length ∧ ∃ gi acc vs, Ext X.K g1 H1 gi Hi ∧ gi.G Dn = none ∧ ¬ gi.Dr Dn ∧ Hi Dn = some (.lst vs) ∧ RpL X.K gi.G vs acc ∧ lcO G ca ti1 vs1 G1 ca1 te (wipeE ρ own) P (ds.drop i) acc, ?_, ?_⟩
  · have n := wf1.freeN nD
    exact ⟨ds.length, by simp, Nat.zero_le _, g1, [], [], Ext.fresh wf1 nD, n.1, n.2, upd_same, .nil, q1⟩
  · rintro i m Hi ⟨rfl, hi, gi, acc, vs, ei, n1, n2, hD, r, q⟩
    have stab : Sub g1.G gi.G ∧ ∀ b o, H1 b = some o → ¬ g1.Dr b → Hi b = some o := ⟨ei.gg, ei.keep⟩
    obtain ⟨k1, k2⟩ := wk gi Hi ei.wf stab
    by_cases hlt : i < ds.length
    · have hd : ds[i]? = some ds[i] := List.getElem?_eq_getElem hlt
      obtain ⟨hgo, hy⟩ := k1 i _ hd
      rw [drop_cons hd] at q
      refine .inr ⟨hgo, fun H' => ∃ gi' acc' vs', Ext X.K g1 H1 gi' H' ∧ gi'.G Dn = none ∧ ¬ gi'.Dr Dn ∧ H' Dn = some (.lst vs') ∧ RpL X.K gi'.G vs' acc' ∧ lcO G ca ti1 vs1 G1 ca1 te (wipeE ρ own) P (ds.drop (i + 1)) acc', fun H' ⟨gi', acc', vs', z⟩ => ⟨ds.length - (i + 1), by omega, rfl, hlt, gi', acc', vs', z⟩, fun xv H2 y2 => ?_⟩
      obtain ⟨g2, e2, rx⟩ := hy xv H2 y2
      obtain ⟨n1', n2', hD'⟩ := keepNew e2 n1 n2 hD
      have Lt : Lk X.K g0 H0 g2 H2 (wipe σ own) (wipeE ρ own) := L1.ext (ei.trans wf1 e2)
      refine ⟨g0, H0, g2, wipeE ρ own, _, _, Lt, rx, gv _ _ _ _ q fun σ' p o => And.intro p o, fun σ2 ρ2 L2' hw q2 => ?_⟩
      have ew : wipe σ2 own = wipe σ own := (hw own fun i hi => hown i hi).trans (wipe_wipe own σ)
      refine ⟨ew, ?_⟩
      obtain ⟨q2, oin⟩ := q2
      refine ⟨g0, H0, g2, ρ2, _, noEx, L2', q2, fun g3 H3 k e3 q3 => ?_, lx_none⟩
      obtain ⟨n1'', n2'', hD''⟩ := keepNew e3 n1' n2' hD'
      have e13 := ((ei.trans wf1 e2).trans wf1 e3)
      cases k with
      | false =>
        simp only [Bool.false_eq_true, if_false] at q3 ⊢
        exact ⟨g3, acc, vs, e13, n1'', n2'', hD'', r.sub (e2.gg.trans e3.gg), q3⟩
      | true =>
        simp only [if_true] at q3 ⊢
        refine ⟨g0, H0, g3, ρ2, _, noEx, L2'.ext e3, q3, fun g4 H4 J1 es e4 wk1 q4 => ?_, lx_none⟩
        have L4 := (L2'.ext e3).ext e4
        obtain ⟨d1, d2, hD4⟩ := keepNew e4 n1'' n2'' hD''
        have nD0 : H0 Dn = none := e1.noneOf L.wf nD |> fun z => L.ex.noneOf L.w0 z
        have hal : ∀ (g' : Gh) (H' : Hp), Ext X.K g1 H1 g' H' → ∀ (j : Nat) (o : Option V) (t : Sl), σ2[j]? = some o → ρ2[j]? = some t → ¬ Own H' o t Dn := fun g' H' ee j o t h1 h2 z => by
          have h3 := oin j t h2 z.is
          have jo : j ∉ own := fun hj => by
            obtain ⟨o', h4, h5⟩ := L1.at h3
            have := wipe_clean own σ j hj o' h4
            subst this
            cases h5 with
            | emp => cases z
          have h6 : (wipe σ own)[j]? = some o := by rw [← ew, wipe_same own σ2 j jo]; exact h1
          obtain ⟨us, k, _⟩ := (z.back ee (L1.sl j o t h6 h3)).some (L1.sl j o t h6 h3)
          rw [nD] at k; cases k
        refine ⟨fun j k Hj => k = es.length - j ∧ j ≤ es.length ∧ ∃ gj acc' vs', Lk X.K g0 H0 gj Hj σ2 ρ2 ∧ Ext X.K g1 H1 gj Hj ∧ Sub g4.G gj.G ∧ gj.G Dn = none ∧ ¬ gj.Dr Dn ∧ Hj Dn = some (.lst vs') ∧ RpL X.K gj.G vs' acc' ∧ lcI G1 ca1 te (wipeE ρ2 vs1) (fun a => lcO G ca ti1 vs1 G1 ca1 te (wipeE ρ own) P (ds.drop (i + 1)) a) (es.drop j) acc', ⟨es.length, by simp, Nat.zero_le _, g4, acc, vs, L4, e13.trans wf1 e4, Sub.refl _, d1, d2, hD4, r.sub ((e2.gg.trans e3.gg).trans e4.gg), q4⟩, ?_⟩
        rintro j k Hj ⟨rfl, hj, gj, acc', vs', Lj, ej, sj, m1, m2, mD, rj, qj⟩
        obtain ⟨p1, p2⟩ := wk1 gj Hj ej.wf sj
        by_cases hjl : j < es.length
        · have hdj : es[j]? = some es[j] := List.getElem?_eq_getElem hjl
          obtain ⟨jgo, jy⟩ := p1 j _ hdj
          rw [drop_cons hdj] at qj
          refine .inr ⟨jgo, fun H' => ∃ gi' acc'' vs'', Lk X.K g0 H0 gi' H' σ2 ρ2 ∧ Ext X.K g1 H1 gi' H' ∧ Sub g4.G gi'.G ∧ gi'.G Dn = none ∧ ¬ gi'.Dr Dn ∧ H' Dn = some (.lst vs'') ∧ RpL X.K gi'.G vs'' acc'' ∧ lcI G1 ca1 te (wipeE ρ2 vs1) (fun a => lcO G ca ti1 vs1 G1 ca1 te (wipeE ρ own) P (ds.drop (i + 1)) a) (es.drop (j + 1)) acc'', fun H' ⟨gi', acc'', vs'', z⟩ => ⟨es.length - (j + 1), by omega, rfl, hjl, gi', acc'', vs'', z⟩, fun xv H5 y5 => ?_⟩
          obtain ⟨g5, e5, rx5⟩ := jy xv H5 y5
          obtain ⟨a1, a2, aD⟩ := keepNew e5 m1 m2 mD
          refine ⟨g0, H0, g5, wipeE ρ2 vs1, _, _, (Lj.ext e5).wipe vs1, rx5, qj, fun σ3 ρ3 L3 hw3 q3' => ⟨(hw3 vs1 fun i hi => hown1 i hi).trans (wipe_wipe vs1 σ2), ?_⟩⟩
          refine ⟨g0, H0, g5, ρ3, _, noEx, L3, q3', fun g6 H6 k6 e6 q6 => ?_, lx_none⟩
          obtain ⟨b1, b2, bD⟩ := keepNew e6 a1 a2 aD
          have ej6 := (ej.trans wf1 e5).trans wf1 e6
          have Lj6 := (Lj.ext e5).ext e6
          cases k6 with
          | false =>
            simp only [Bool.false_eq_true, if_false] at q6 ⊢
            exact ⟨g6, acc', vs', Lj6, ej6, sj.trans (e5.gg.trans e6.gg), b1, b2, bD, rj.sub (e5.gg.trans e6.gg), q6⟩
          | true =>
            simp only [if_true] at q6 ⊢
            refine ⟨g0, H0, g6, ρ3, _, noEx, L3.ext e6, q6, fun g7 H7 v d e7 rv q7 => ?_, lx_none⟩
            obtain ⟨c1, c2, cD⟩ := keepNew e7 b1 b2 bD
            have rj7 := rj.sub ((e5.gg.trans e6.gg).trans e7.gg)
            obtain ⟨hlen, q7⟩ := q7
            refine ⟨vs', cD, by rw [rj7.len]; exact Nat.lt_of_lt_of_le hlen ln_size, g7, acc' ++ [d], vs' ++ [v], (Lj6.ext e7).updOther nD0 c1 c2 (hal _ _ (ej6.trans wf1 e7)), (ej6.trans wf1 e7).updNew nD c1 c2, sj.trans ((e5.gg.trans e6.gg).trans e7.gg), c1, c2, upd_same, rj7.append (.cons rv .nil), q7⟩
        · have ej' : j = es.length := by omega
          subst ej'
          rw [List.drop_length] at qj
          exact .inl ⟨p2, gj, acc', vs', ej, m1, m2, mD, rj, qj⟩
    · have ei' : i = ds.length := by omega
      subst ei'
      rw [List.drop_length] at q
      refine .inl ⟨k2, ?_⟩
      exact hQ gi Hi Dn vs acc (e1.trans L.wf ei) (e1.noneOf L.wf nD) n1 n2 hD r q
variable {elt tg iter tg1 iter1 : Expr} {ifs ifs1 : List Expr} {scope : Scope} {own : List (Str × Nat)} {sl sl1 vs vs1 : List Nat} {G G1 : uG}
theorem jf_lc2 (hc : X.calm = true) (hN : X.N.Nodup) (hi : JIb X κ W tg iter ti) (ok : BlkOk X.N X.env.scope scope own) (hvs : own.map (·.2) = vs) (hown : ∀ i ∈ sl, i ∈ vs) (hown1 : ∀ i ∈ sl1, i ∈ vs1) (hv : ∀ i ∈ vs1, i ∈ vs) (gv : GV G)
    (hg : ∀ (s : Shared) (H : Hp) (C : Addr) (cl : List (Str × Addr)) (fp : List Addr), JG (X.blk s H scope (compEnvC scope cl C X.env) fp) tg sl G) (ht : ∀ (s : Shared) (H : Hp) (C : Addr) (cl : List (Str × Addr)) (fp : List Addr), JTs (X.blk s H scope (compEnvC scope cl C X.env) fp) κ E0 ifs ca)
    (hi1 : ∀ (s : Shared) (H : Hp) (C : Addr) (cl : List (Str × Addr)) (fp : List Addr), JI (X.blk s H scope (compEnvC scope cl C X.env) fp) κ E0 tg1 iter1 ti1)
    (hg1 : ∀ (s : Shared) (H : Hp) (C : Addr) (cl : List (Str × Addr)) (fp : List Addr), JG (X.blk s H scope (compEnvC scope cl C X.env) fp) tg1 sl1 G1) (ht1 : ∀ (s : Shared) (H : Hp) (C : Addr) (cl : List (Str × Addr)) (fp : List Addr), JTs (X.blk s H scope (compEnvC scope cl C X.env) fp) κ E0 ifs1 ca1)
    (he : ∀ (s : Shared) (H : Hp) (C : Addr) (cl : List (Str × Addr)) (fp : List Addr), JE (X.blk s H scope (compEnvC scope cl C X.env) fp) κ E0 elt te) (hs : ∀ x, foldedSetIterable iter X.env x = pure x := by intro _; rfl) (hs1 : ∀ env x, foldedSetIterable iter1 env x = pure x := by intro _ _; rfl) :
    JF X κ W (.ListComp elt [⟨tg, iter, ifs, 0⟩, ⟨tg1, iter1, ifs1, 0⟩] scope pos) (f_lc2 vs vs1 ti G ca ti1 G1 ca1 te) := by
  subst hvs
  exact PE.weak (pe_lc2 hc hN hi ok hv hg ht hi1 hg1 ht1 he hs hs1) (tLc2_of hown hown1 gv)
end
end PL

namespace PL
open PySem PySem.Spec PyProof.Rows L2

/-! ### walks over a tuple of ints -/
section
variable {prog : Program} {w : World} {A : Around} {E : Value → Shared → Prop} {s : Shared} {l : Addr} {xs : Array (Int × Tok)}
theorem iter_intTuple {Q : Value → Shared → Prop} (hl : s.heap.IsTuple l (intItems xs))
    (h : ∀ s₂ : Shared, s₂ = { s with heap := s.heap.push { cls := .type "tuple_iterator", data := .fields #[.ref l, .int 0 0] } } →
      (s₂.heap.IsTupleIter s.heap.objs.size l 0 ∧ s₂.heap.IsTuple l (intItems xs)) → (∀ b ∈ [s.heap.objs.size, l], b < s₂.heap.objs.size) → l ≠ s.heap.objs.size → Q (.ref s.heap.objs.size) s₂) :
    wpAny (model prog w) A (pyIter (.ref l)) Q E s := by
  have hlt : l < s.heap.objs.size := by obtain ⟨_, e, _⟩ := hl; exact Heap.lt_size e
  refine wpAny_pyIter_tuple hl (h _ rfl ⟨⟨_, Heap.get?_push_size _ rfl, rfl, rfl⟩, hl.push _⟩ (fun b hb => ?_) (Nat.ne_of_lt hlt))
  show b < (s.heap.push _).objs.size
  rw [Heap.size_push]
  rcases List.mem_cons.mp hb with rfl | hb
  · exact Nat.lt_succ_self _
  · rcases List.mem_cons.mp hb with rfl | hb
    · exact Nat.lt_succ_of_lt hlt
    · cases hb
theorem old_keptT {h' : Heap} (hk : ∀ b o, b ∉ [s.heap.objs.size] → (s.heap.push { cls := .type "tuple_iterator", data := .fields #[.ref l, .int 0 0] }).get? b = some o → h'.get? b = some o) :
    ∀ b o, s.heap.get? b = some o → h'.get? b = some o := fun b o e => by
  refine hk b o (fun hm => ?_) (Heap.get?_push_of_some _ e)
  rcases List.mem_cons.mp hm with e1 | hm
  · exact absurd (e1 ▸ Heap.lt_size e) (Nat.lt_irrefl _)
  · cases hm
theorem max_intTuple {Q : Value → Shared → Prop} (hh : A.handled = none) (hl : s.heap.IsTuple l (intItems xs)) (hne : 0 < xs.size)
    (h : ∀ v h' tk, (intItems xs)[argBest (fun i j => decide (numAt xs i > numAt xs j)) (xs.size - 1)]? = some v → (∀ b o, s.heap.get? b = some o → h'.get? b = some o) → Q v { s with heap := h', toks := tk }) :
    wpAny (model prog w) A (call (.builtin "max") [.ref l]) Q E s := by
  refine call_max_walk (iter_intTuple hl fun s₂ e st hfp hlI => ?_)
  subst e
  refine ⟨_, _, _, _, _, _, _, rfl, Walks.tuple (A := A.in1) hh _ l hlI (intItems xs), st, hfp, by simpa [intItems] using hne, CmpOf.ints_gt (numAt xs) (fun _ _ => intItems_at), fun v h' tk hP hk => ?_⟩
  exact h v h' tk (by simpa [intItems] using hP) (old_keptT hk)
theorem min_intTuple {Q : Value → Shared → Prop} (hh : A.handled = none) (hl : s.heap.IsTuple l (intItems xs)) (hne : 0 < xs.size)
    (h : ∀ v h' tk, (intItems xs)[argBest (fun i j => decide (numAt xs i < numAt xs j)) (xs.size - 1)]? = some v → (∀ b o, s.heap.get? b = some o → h'.get? b = some o) → Q v { s with heap := h', toks := tk }) :
    wpAny (model prog w) A (call (.builtin "min") [.ref l]) Q E s := by
  refine call_min_walk (iter_intTuple hl fun s₂ e st hfp hlI => ?_)
  subst e
  refine ⟨_, _, _, _, _, _, _, rfl, Walks.tuple (A := A.in1) hh _ l hlI (intItems xs), st, hfp, by simpa [intItems] using hne, CmpOf.ints_lt (numAt xs) (fun _ _ => intItems_at), fun v h' tk hP hk => ?_⟩
  exact h v h' tk (by simpa [intItems] using hP) (old_keptT hk)
theorem sum_intTuple {Q : Value → Shared → Prop} (hh : A.handled = none) (hl : s.heap.IsTuple l (intItems xs))
    (h : ∀ h' tk t', (∀ b o, s.heap.get? b = some o → h'.get? b = some o) → Q (.int (preSum (numAt xs) xs.size) t') { s with heap := h', toks := tk }) :
    wpAny (model prog w) A (call (.builtin "sum") [.ref l]) Q E s := by
  refine call_sum_walkG (iter_intTuple hl fun s₂ e st hfp hlI => ?_)
  subst e
  refine ⟨_, _, _, _, _, _, numAt xs, rfl, Walks.tuple (A := A.in1) hh _ l hlI (intItems xs), st, hfp, (fun _ _ => intItems_at), fun h' tk t' hk => ?_⟩
  have := h h' tk t' (old_keptT hk)
  simpa [intItems] using this
end
section
variable {prog : Program} {w : World} {A : Around} {E : Value → Shared → Prop} {s : Shared} {l : Addr} {its : List Value} {ns : List Int} {Q : Value → Shared → Prop}
theorem sum_rawT (hh : A.handled = none) (hl : s.heap.IsTuple l its.toArray) (hi : IntsAre its ns)
    (h : ∀ h' tk t', (∀ b o, s.heap.get? b = some o → h'.get? b = some o) → Q (.int ns.sum t') { s with heap := h', toks := tk }) : wpAny (model prog w) A (call (.builtin "sum") [.ref l]) Q E s := by
  obtain ⟨xs, e⟩ := hi.allInts.items
  have hn : numsOf (intItems xs).toList = ns := by rw [← e]; exact hi.numsOf
  rw [nums_intItems] at hn
  rw [e] at hl
  refine sum_intTuple hh hl fun h' tk t' hk => ?_
  have := h h' tk t' hk
  rw [preSum_eq, List.take_of_length_le (by simp), hn]; exact this
theorem max_rawT (hh : A.handled = none) (hl : s.heap.IsTuple l its.toArray) (hi : IntsAre its ns) (hne : 0 < ns.length)
    (h : ∀ h' tk M t', (∀ b o, s.heap.get? b = some o → h'.get? b = some o) → M ∈ ns → (∀ a, a ∈ ns → a ≤ M) → Q (.int M t') { s with heap := h', toks := tk }) : wpAny (model prog w) A (call (.builtin "max") [.ref l]) Q E s := by
  obtain ⟨xs, e⟩ := hi.allInts.items
  have hn : numsOf (intItems xs).toList = ns := by rw [← e]; exact hi.numsOf
  rw [nums_intItems] at hn
  subst hn
  rw [e] at hl
  have hsz : 0 < xs.size := by simpa using hne
  refine max_intTuple hh hl hsz fun v h' tk hv hk => ?_
  obtain ⟨t, rfl⟩ := intItems_at hv
  obtain ⟨h1, h2⟩ := argBest_gt (numAt xs) (xs.size - 1)
  refine h h' tk _ t hk ?_ fun a ha => ?_
  · rw [numAt_eq]; exact PySem.getD_mem (by rw [List.length_map, Array.length_toList]; omega)
  · obtain ⟨j, hj, rfl⟩ := mem_getD ha
    rw [List.length_map, Array.length_toList] at hj
    rw [← numAt_eq]; exact h2 j (by omega)
theorem min_rawT (hh : A.handled = none) (hl : s.heap.IsTuple l its.toArray) (hi : IntsAre its ns) (hne : 0 < ns.length)
    (h : ∀ h' tk M t', (∀ b o, s.heap.get? b = some o → h'.get? b = some o) → M ∈ ns → (∀ a, a ∈ ns → M ≤ a) → Q (.int M t') { s with heap := h', toks := tk }) : wpAny (model prog w) A (call (.builtin "min") [.ref l]) Q E s := by
  obtain ⟨xs, e⟩ := hi.allInts.items
  have hn : numsOf (intItems xs).toList = ns := by rw [← e]; exact hi.numsOf
  rw [nums_intItems] at hn
  subst hn
  rw [e] at hl
  have hsz : 0 < xs.size := by simpa using hne
  refine min_intTuple hh hl hsz fun v h' tk hv hk => ?_
  obtain ⟨t, rfl⟩ := intItems_at hv
  obtain ⟨h1, h2⟩ := argBest_lt (numAt xs) (xs.size - 1)
  refine h h' tk _ t hk ?_ fun a ha => ?_
  · rw [numAt_eq]; exact PySem.getD_mem (by rw [List.length_map, Array.length_toList]; omega)
  · obtain ⟨j, hj, rfl⟩ := mem_getD ha
    rw [List.length_map, Array.length_toList] at hj
    rw [← numAt_eq]; exact h2 j (by omega)
end
section
variable {X : Cx}
/-- a list or a tuple of ints -/
def SqA (K : PySem.W.Frag) (H : Hp) (a : Addr) (xs : List V) : Prop := SqL K H a xs ∨ SqT K H a xs
def rSumA (K : PySem.W.Frag) : List V → Hp → VK → Prop := fun vs H Q => ∃ (a : Addr) (ns : List Int), vs = [V.ref a] ∧ SqA K H a (ns.map V.int) ∧ Q (.int ns.sum) H
def rMaxA (K : PySem.W.Frag) : List V → Hp → VK → Prop := fun vs H Q => ∃ (a : Addr) (ns : List Int), vs = [V.ref a] ∧ SqA K H a (ns.map V.int) ∧ 0 < ns.length ∧ ∀ m, m ∈ ns → (∀ y, y ∈ ns → y ≤ m) → Q (.int m) H
def rMinA (K : PySem.W.Frag) : List V → Hp → VK → Prop := fun vs H Q => ∃ (a : Addr) (ns : List Int), vs = [V.ref a] ∧ SqA K H a (ns.map V.int) ∧ 0 < ns.length ∧ ∀ m, m ∈ ns → (∀ y, y ∈ ns → m ≤ y) → Q (.int m) H
theorem cr_sumA (hc : X.calm = true) : CallR X (.builtin "sum") (rSumA X.K) := by
  intro pins s σ H vs us Q I r h
  obtain ⟨a, ns, rfl, hs | hs, q⟩ := h
  · exact cr_sum hc pins s σ H _ us Q I r ⟨a, ns, rfl, hs, q⟩
  · obtain ⟨its, rv, hl, _⟩ := I.tuple hs
    rw [Vals.ref1 r]
    exact sum_rawT (I.ok.hd hc) hl rv.ints fun h' tk t' hk => ⟨.int _, H, I.kept hk, ⟨_, rfl⟩, q⟩
theorem cr_maxA (hc : X.calm = true) : CallR X (.builtin "max") (rMaxA X.K) := by
  intro pins s σ H vs us Q I r h
  obtain ⟨a, ns, rfl, hs | hs, hne, q⟩ := h
  · exact cr_max hc pins s σ H _ us Q I r ⟨a, ns, rfl, hs, hne, q⟩
  · obtain ⟨its, rv, hl, _⟩ := I.tuple hs
    rw [Vals.ref1 r]
    exact max_rawT (I.ok.hd hc) hl rv.ints hne fun h' tk m t' hk h1 h2 => ⟨.int _, H, I.kept hk, ⟨_, rfl⟩, q m h1 h2⟩
theorem cr_minA (hc : X.calm = true) : CallR X (.builtin "min") (rMinA X.K) := by
  intro pins s σ H vs us Q I r h
  obtain ⟨a, ns, rfl, hs | hs, hne, q⟩ := h
  · exact cr_min hc pins s σ H _ us Q I r ⟨a, ns, rfl, hs, hne, q⟩
  · obtain ⟨its, rv, hl, _⟩ := I.tuple hs
    rw [Vals.ref1 r]
    exact min_rawT (I.ok.hd hc) hl rv.ints hne fun h' tk m t' hk h1 h2 => ⟨.int _, H, I.kept hk, ⟨_, rfl⟩, q m h1 h2⟩
theorem Bp.seqA {g : Gh} {H : Hp} {v : V} {d : D} {K : PySem.W.Frag} (w : WFg K g H) (b : Bp K g H v d) {P : List D → Prop} (h : seqQ P d) : ∃ a vs ds, v = .ref a ∧ SqA K H a vs ∧ RpL K g.G vs ds ∧ P ds := by
  unfold seqQ at h
  split at h
  · obtain ⟨a, vs, rfl, s1, r1⟩ := b.list w
    exact ⟨a, vs, _, rfl, .inl (SqL.of s1), r1, h⟩
  · obtain ⟨a, vs, rfl, s1, r1⟩ := b.tup
    exact ⟨a, vs, _, rfl, .inr (SqT.sub w.sub s1), r1, h⟩
  · exact h.elim
theorem b_sumA (hc : X.calm = true) : COp X (.builtin "sum") o_sum := by
  refine ⟨_, cr_sumA hc, fun g H v1 d1 P Q w b h hQ => ?_⟩
  unfold o_sum at h
  obtain ⟨a, vs, ds, rfl, s1, r1, h⟩ := b.seqA w h
  cases q : intsOf ds with
  | none => rw [q] at h; exact h.elim
  | some ns =>
    rw [q] at h
    cases r1.intsV q
    exact ⟨a, ns, rfl, s1, hQ g H _ _ (Ext.refl w) (.int _) h⟩
theorem b_maxS (hc : X.calm = true) : COp X (.builtin "max") o_maxS := by
  refine ⟨_, cr_maxA hc, fun g H v1 d1 P Q w b h hQ => ?_⟩
  unfold o_maxS at h
  obtain ⟨a, vs, ds, rfl, s1, r1, h⟩ := b.seqA w h
  cases q : intsOf ds with
  | none => rw [q] at h; exact h.elim
  | some ns =>
    rw [q] at h
    cases r1.intsV q
    exact ⟨a, ns, rfl, s1, h.1, fun m h1 h2 => hQ g H _ _ (Ext.refl w) (.int _) (h.2 m h1 h2)⟩
theorem b_minS (hc : X.calm = true) : COp X (.builtin "min") o_minS := by
  refine ⟨_, cr_minA hc, fun g H v1 d1 P Q w b h hQ => ?_⟩
  unfold o_minS at h
  obtain ⟨a, vs, ds, rfl, s1, r1, h⟩ := b.seqA w h
  cases q : intsOf ds with
  | none => rw [q] at h; exact h.elim
  | some ns =>
    rw [q] at h
    cases r1.intsV q
    exact ⟨a, ns, rfl, s1, h.1, fun m h1 h2 => hQ g H _ _ (Ext.refl w) (.int _) (h.2 m h1 h2)⟩
end
end PL

/-! An exception class of the program's whose __init__ says super().__init__(..) and keeps a field. -/
namespace PL
open PySem PySem.Spec PyProof.Rows L2 PySem.Calls

section
variable {prog : Program} {w : World} {A : Around} {E : Value → Shared → Prop} {h : Heap} {g : Array GenState} {d : Drawn} {t : Nat} {os : OsState}
variable {nm q : Str} {C N : Addr} {bs bm bmB : List Value} {hdct : Bool} {sn : List Str} {sub : List Value} {ab : Bool} {col : Option Bool} {dd : Option Addr} {k0 k1 k2 k3 k5 : Option Value} {B i newId : String}
/-- the wrapper that super().__init__ is, called -/
theorem call_mw {u e t0 : Addr} {rest : List Value} {Q : Value → Shared → Prop} (FB : ExcBaseFacts B newId i bmB)
    (hC : h.get? C = some (excClassObj nm q C N bs bm hdct sn sub ab col dd k0 k1 k2 k3 k5 newId)) (he : h.get? e = some (HandSPX.excO C t0)) (hu : h.get? u = some (W.kxs_mw i e)) (hrest : rest.length ≤ sizeLine)
    (hq : ∀ h' t1, (∀ b o, b ≠ e → h.get? b = some o → h'.get? b = some o) → h'.get? e = some (HandSPX.excO C t1) → Q .none ⟨h', g, d, t, os⟩) :
    wpAny (model prog w) A (call (.ref u) rest) Q E ⟨h, g, d, t, os⟩ := by
  refine wpAny_call (codeAny_of_tree ?_)
  show wpAny _ A.in1 (callAny (.ref u) ⟨rest, []⟩) _ _ _
  simp only [callAny]
  refine wpAny_bind (wpAny_load hu ?_)
  simp only [W.kxs_mw, show (Value.type "method-wrapper" == Value.type "method" || Value.type "method-wrapper" == Value.type "builtin_function_or_method" || Value.type "method-wrapper" == Value.type "method-wrapper") = true by decide, if_true]
  refine W.KFB.if_so (by decide) ?_
  refine wpAny_bind (W.check_bound_init FB.toExcCallFacts hC he rfl ?_)
  refine wpAny_bind (wpAny_pure (wpAny_pure ?_))
  refine ⟨plainId_quiet FB.init.plain _, codeAny_builtin FB.initEntry ?_⟩
  rw [Around.under_plainId FB.init.plain _]
  wp_walk
  refine hq _ h.objs.size (fun b o hb ho => ?_) ?_
  · rw [Heap.get?_update_other _ _ (Ne.symm hb)]
    exact Heap.get?_push_of_some _ ho
  · rw [Heap.get?_update_self _ (Heap.get?_push_of_some _ he) rfl]
    rfl
end
/-- what the text says of the class, its __init__ and its field -/
structure InitC (K : PySem.W.Frag) (P : Program) (C fI cc cda : Addr) (qual : Str) (scope : Scope) (body : List Stmt) (params : Arguments) (x f : Str) : Prop where
  oex : OexC K C
  ini : PySem.W.findIn K (.ref C) "__init__" = some (some (.ref fI))
  tyI : PySem.W.typeIn K (.ref fI) = some (.type "function")
  fno : PySem.W.findIn K (.ref C) f = some none
  fn : ∃ (oc : Value) (od : Option Addr) (dV kV doc pm : Value) (an : Option Addr) (ct : Value) (osl : Array (Option Value)), K.lookup fI = some ⟨oc, od, .func (PySem.W.ksFn "__init__" qual params body scope dV kV doc pm an (.ref cda) ct cc), osl⟩ ∧
    ∀ (s : Shared) (u v : Value), BindsTo s (PySem.W.ksFn "__init__" qual params body scope dV kV doc pm an (.ref cda) ct cc) ⟨[u, v], []⟩ [("self", u), (x, v)]
  code : PySem.W.codeIn K (.ref cda) qual = true
  cell : ∃ cl cld csl, K.lookup cc = some ⟨cl, cld, .cell (some (.ref C)), csl⟩
  cobj : ∃ ccl cdd vs ccs file tf, K.lookup cda = some ⟨ccl, cdd, .fields vs, ccs⟩ ∧ vs[2]? = some (.str file tf) ∧ ((P.main.file : Str) == file) = true
  self : PySem.W.mroIn K C (.ref C) = some true
  subV : PySem.W.subIn K (.ref C) (.type "ValueError") = some true
  sup : PySem.W.ks_superIn K C C "__init__" = some (some (.builtin "ValueError.__init__"))
  third : PySem.W.nsIn K cStatics "thirdparty.any" = some none
  top : (P.main.scope.names.lookup ("super" : Str)).isSome = false
  arg0 : ∃ ar, (params.posonlyargs ++ params.args).head? = some ar ∧ ar.arg = "self"
  k1 : scope.names.lookup ("super" : Str) = some .globalImplicit
  k2 : scope.names.lookup ("__class__" : Str) = some .free
  k3 : scope.names.lookup ("self" : Str) = some .local
  k4 : scope.names.lookup x = some .local
  k5 : ∀ y ∈ scope.names, y.2 ≠ .cell
  k6 : scope.isCoroutine = false
  k7 : scope.isGenerator = false
  k8 : scope.kind = .function
  xs : (x == ("self" : Str)) = false
  xd : (x == ("__debug__" : Str)) = false
  bodyE : ∃ q0 q1 q2 q3 q4 q5 q6 q7 q8 q9, ∃ pl : Addr → Sem Bool, body = [.Expr (.Call (.Attribute (.Call (.Name "super" q0) [] [] q1) "__init__" q2) [.Name x q3] [] q4) q5, .Assign [.Attribute (.Name "self" q6) f q7] (.Name x q8) q9] ∧ ∀ L : Addr,
    (eval (.Call (.Attribute (.Call (.Name "super" q0) [] [] q1) "__init__" q2) [.Name x q3] [] q4) (PySem.W.ksEnv qual scope L fI (.ref cda) cc) = (do
      let ov ← attributeBase (.Call (.Name "super" q0) [] [] q1) "__init__" (PySem.W.ksEnv qual scope L fI (.ref cda) cc) (eval (.Call (.Name "super" q0) [] [] q1) (PySem.W.ksEnv qual scope L fI (.ref cda) cc))
      standAt q2.atName
      let (f, first) ← holding [ov] (getMethod ov "__init__" (pl L))
      callWith q4 f first (backTo q4 (starEach [.Name x q3] (PySem.W.ksEnv qual scope L fI (.ref cda) cc))) [])) ∧
    interactive (PySem.W.ksEnv qual scope L fI (.ref cda) cc) = false ∧
    swapsWith (.Call (.Attribute (.Call (.Name "super" q0) [] [] q1) "__init__" q2) [.Name x q3] [] q4) none q5.line (PySem.W.ksEnv qual scope L fI (.ref cda) cc) = pure false ∧
    starEach [.Name x q3] (PySem.W.ksEnv qual scope L fI (.ref cda) cc) = [(false, eval (.Name x q3) (PySem.W.ksEnv qual scope L fI (.ref cda) cc))] ∧
    swapsWith (.Name x q8) (some (.Attribute (.Name "self" q6) f q7)) q9.line (PySem.W.ksEnv qual scope L fI (.ref cda) cc) = pure false
section
variable {P : Program} {w : World} {K : PySem.W.Frag} {A : Around} {s : Shared} {C fI cc cda e t0 : Addr} {qual x f : Str} {scope : Scope} {body : List Stmt} {params : Arguments} {mg mb : Str → Option Value} {R : Result → Shared → Prop}
theorem init_run (T : InitC K P C fI cc cda qual scope body params x f) (KX : K.In s.heap) (lim : s.heap.NoLimit) (G : s.heap.Ns mainGlobals mg) (mS : mg "super" = none) (Bn : s.heap.Ns builtinsNs mb) (bS : mb "super" = some (.type "super"))
    (he : s.heap.get? e = some (HandSPX.excO C t0)) (eK : K.lookup e = none) (hroom : A.depth < recursionLimit) {v : Value}
    (post : ∀ h' dx tk' t1, (∀ b o, b ≠ e → s.heap.get? b = some o → h'.get? b = some o) → s.heap.objs.size ≤ dx → dx ≠ e → h'.get? e = some { cls := .ref C, dict := some dx, data := .fields #[.ref t1, .none, .none, .none, .bool false, .none] } →
      h'.Ns1 dx (fun y => if y = f then some v else none) → R (.ok (.ret .none)) { s with heap := h', toks := tk' }) :
    codeAny (model P w) A (.call (.ref fI) ⟨[.ref e, v], []⟩) R s := by
  obtain ⟨oc, od, dV, kV, doc, pm, an, ct, osl, hfn, hbind⟩ := T.fn
  obtain ⟨cl, cld, csl, hcell⟩ := T.cell
  obtain ⟨ccl, cdd, vs, ccs, file, tf, hcode, hvs, hfile⟩ := T.cobj
  obtain ⟨nm, q, N, bs, bm, sn, sub, ab, col, dd, k0, k1, k2, k3, k5, hC, hbm⟩ := T.oex.cls
  obtain ⟨ar, har, hars⟩ := T.arg0
  have hcl : PySem.W.clsIn K C = some { name := nm, bases := bs, mro := .ref C :: bm, ns := N, qualname := q, hasDict := true, slotNames := sn, subclasses := sub, abstract := ab, collection := col, hasDel := false } := by unfold PySem.W.clsIn; rw [hC] <;> rfl
  obtain ⟨q0, q1, q2, q3, q4, q5, q6, q7, q8, q9, pl, hb, hE⟩ := T.bodyE
  have hxself : ("self" : Str) ≠ x := fun z => by
    have := T.xs
    rw [← z] at this
    simp at this
  refine PySem.ks_codeAny_call_defAt (fd := W.ksFn "__init__" qual params body scope dV kV doc pm an (.ref cda) ct cc) (body := body) (binds := [("self", .ref e), (x, v)]) hroom (KX _ _ hfn) rfl lim (W.codeRec_of KX T.code) rfl (hbind s _ _) T.k5 (fun y hy => ?_) (fun h₁ hns hk => ?_) T.k6 T.k7 T.k8
  · simp only [List.mem_cons, List.not_mem_nil, or_false] at hy
    rcases hy with rfl | rfl
    · exact T.k3
    · exact T.k4
  subst hb
  have k1 : ∀ b o, s.heap.get? b = some o → h₁.get? b = some o := hk
  have KX1 : K.In h₁ := KX.keeps k1
  have hv1 : ([("self", Value.ref e), (x, v)] : List (Str × Value)).reverse.lookup ar.arg = some (.ref e) := by
    rw [hars]
    have : (("self" : Str) == x) = false := by simpa using hxself
    simp [List.lookup, this]
  have hv2' := hv1
  rw [hars] at hv2'
  have hv2 : ([("self", Value.ref e), (x, v)] : List (Str × Value)).reverse.lookup ("self" : Str) = some (Value.ref e) := hv2'
  have hv3 : ([("self", Value.ref e), (x, v)] : List (Str × Value)).reverse.lookup x = some v := by simp [List.lookup]
  obtain ⟨oD, hD1, hD2⟩ : ∃ oD, h₁.get? C = some oD ∧ oD.data = .cls _ := ⟨_, KX1 _ _ hC, rfl⟩
  have he1 := k1 _ _ he
  obtain ⟨hE1, hE2, hE3, hE4, hE5⟩ := hE s.heap.objs.size
  refine PySem.ks_wpAt_execs_cons (PySem.ks_wpAt_Expr_any (PySem.ks_wpAt_MethodCall ?_ hE1) hE2 hE3)
  refine PySem.ks_wpAt_super_base T.k1 T.k2 rfl rfl (KX1 _ _ hfn) rfl har rfl (KX1 _ _ hcode) rfl hvs hfile T.top ?_
  refine W.ks_loadName_global T.k8 T.k1 (loadGlobal_builtin (G.keeps k1) mS (Bn.keeps k1) bS ⟨rfl, ?_⟩)
  refine wpAny_loadName_free T.k8 T.k2 rfl ⟨_, KX1 _ _ hcell, rfl⟩ ?_
  refine wpAny_loadName_local T.k8 (by rw [hars]; exact T.k3) hns hv1 ?_
  refine PySem.ks_wpAny_isType_cls hD1 hD2 ⟨rfl, ?_⟩
  refine PySem.ks_wpAny_call_super hD1 hD2 he1 rfl (fun c z => nomatch z) (W.looks_mroIn KX1 T.self) (fun h2 e2 k2 => ?_)
  have KX2 : K.In h2 := KX1.keeps k2
  have he2 := k2 _ _ he1
  have hxC : e ≠ C := fun z => by
    have := KX2 _ _ hC
    rw [← z, he2] at this
    cases this
  have I2 : W.InstAt h2 e (HandSPX.excO C t0) C none := ⟨he2, rfl, rfl, trivial⟩
  have hsupm := T.sup
  unfold PySem.W.ks_superIn at hsupm
  rw [hcl, Option.bind_some] at hsupm
  refine W.kxs_getMethod W.kxs_ValueError e2 (W.looks_opaque KX2 T.third) (l₀ := .ref C :: bm) (fun A Q E s k q => wpAny_bind ((W.looks_clsIn KX2 hcl) A _ E s k (wpAny_pure q))) rfl KX2 hsupm (I2.type.andThen (W.looks_subIn KX2 T.subV)) hxC rfl ?_
  show wpAny _ _ (callWith q4 (.ref h2.objs.size) [] (backTo q4 (starEach [.Name x q3] (W.ksEnv qual scope s.heap.objs.size fI (.ref cda) cc))) []) _ _ _
  rw [hE4]
  have k3 : ∀ b o, h2.get? b = some o → (h2.push (W.kxs_mw "ValueError.__init__" e)).get? b = some o := fun b o z => Heap.get?_push_of_some _ z
  refine W.kxs_callWith (i := "ValueError.__init__") (x := e) rfl (evalArgs_plain ?_)
  refine Calls.spliced_cons (wpAny_Name (wpAny_loadName_local T.k8 T.k4 (hns.keeps fun b o z => k3 _ _ (k2 _ _ z)) hv3 ?_) T.xd)
  refine Calls.spliced_nil ⟨?_, ?_⟩
  · show (h2.push _).get? _ = _
    exact Heap.get?_push_size _ rfl
  have KX3 : K.In (h2.push (W.kxs_mw "ValueError.__init__" e)) := KX2.keeps k3
  refine call_mw F.excBase_ValueError (KX3 _ _ hC) (k3 _ _ he2) (Heap.get?_push_size _ rfl) (by show 1 ≤ _; rw [sizeLine_eq]; decide) (fun h4 t1 k4 he4 => ?_)
  have KX4 : K.In h4 := fun b o z => by
    have := KX3 b o z
    refine k4 b o (fun y => ?_) this
    rw [y, eK] at z
    cases z
  have hns4 : h4.Ns s.heap.objs.size fun y => ([("self", Value.ref e), (x, v)] : List (Str × Value)).reverse.lookup y := by
    obtain ⟨oL, es, ep, hL, r⟩ := hns
    have hLe : s.heap.objs.size ≠ e := (Nat.ne_of_lt (Heap.lt_size he)).symm
    exact ⟨oL, es, ep, k4 _ _ hLe (k3 _ _ (k2 _ _ hL)), r⟩
  refine PySem.ks_wpAt_execs_cons (wpAt_of_wpAny (plainObj_wpAny_Assign_Attribute (wpAny_Name (wpAny_loadName_local T.k8 T.k4 hns4 hv3 ?_) T.xd) hE5))
  refine wpAny_Name (wpAny_loadName_local T.k8 T.k3 hns4 hv2 ?_) (by decide)
  refine PySem.W.set_plain KX4 (ox := HandSPX.excO C t1) (od := none) ⟨he4, rfl, rfl, trivial⟩ T.oex.sa ?_
  refine PySem.HandSPX.exc_osa KX4 he4 hcl (show PySem.HandSPX.refsVE (.ref C :: bm) = true from hbm) rfl T.fno (fun h' tk' dx k dn dne hx hn => ?_)
  have hsz : s.heap.objs.size ≤ h4.objs.size := by
    obtain ⟨oL, es, ep, hL, r⟩ := hns4
    exact Nat.le_of_lt (Heap.lt_size hL)
  refine wpAt_of_wpAny (wpAny_pure ?_)
  exact post h' dx tk' t1 (fun b o hbe z => k b o hbe (k4 b o hbe (k3 _ _ (k2 _ _ (k1 _ _ z))))) (Nat.le_trans hsz dn) dne hx hn
/-- C(v): the exception, its dict {f: v} -/
def tMk1 (C : Addr) (f : Str) (te : TE) : L2.St → Hp → XK → Prop := fun σ H Q => te σ H fun v H1 => ∀ d, H1 d = none → Q (.ref C) (some d) (upd H1 d (.xd [(f, v)]))
theorem pmk_init {X : Cx} {C fI cc cda : Addr} {qual x f y : Str} {scope : Scope} {body : List Stmt} {params : Arguments} {e : Expr} {te : TE} {p pos : Pos} {k : Nat} (T : InitC X.K X.prog C fI cc cda qual scope body params x f) (hr : Room (k + 1) X.A) (hg : Gl X y) (hm : X.mg y = some (.ref C)) (mS : X.mg "super" = none)
    (he : PE X e te) (hdb : (y == ("__debug__" : Str)) = false := by decide) (hst : starEach [e] X.env = [(false, eval e X.env)] := by rfl) :
    PMk X (.Call (.Name y p) [e] [] pos) (tMk1 C f te) := by
  intro pins s σ H Q I h
  obtain ⟨nm, q, N, bs, bm, sn, sub, ab, col, dd, k0, k1, k2, k3, k5, hC, hbm⟩ := T.oex.cls
  refine wpAny_Call_Name_kw (ld_glob I hg hm ?_ hdb)
  refine PySem.W.callWith_K (h₀ := X.base) I.ok.mod.kin T.oex.kC ?_ (by rw [hst]; rfl) rfl
  rw [hst]
  refine Calls.spliced_cons (thn (he.run pins s σ H _ I h) fun u s1 ⟨v, H1, I1, rv, hq⟩ => ?_)
  refine Calls.spliced_nil ⟨I1.kIn, ?_⟩
  show wpAny _ _ (call (.ref C) [u]) _ _ _
  obtain ⟨hp, g, dr, tk, os⟩ := s1
  have hsz : hp.objs.size ≤ hp.objs.size + 1 := Nat.le_succ _
  have hn : H1 (hp.objs.size + 1) = none := I1.hok.fresh hsz
  have kk : ∀ b o, hp.get? b = some o → ((hp.push (PySem.W.kdv_tup [u])).push (PySem.HandSPX.excO C hp.objs.size)).get? b = some o := fun b o e => Heap.get?_push_of_some _ (Heap.get?_push_of_some _ e)
  have hget : ((hp.push (PySem.W.kdv_tup [u])).push (PySem.HandSPX.excO C hp.objs.size)).get? (hp.objs.size + 1) = some (PySem.HandSPX.excO C hp.objs.size) := by heap_get
  have I2 : Inv X pins σ (upd H1 (hp.objs.size + 1) (exo (hp.objs.size + 1) C none)) ⟨(hp.push (PySem.W.kdv_tup [u])).push (PySem.HandSPX.excO C hp.objs.size), g, dr, tk, os⟩ :=
    I1.laid (t' := tk) (a := hp.objs.size + 1) (o := exo (hp.objs.size + 1) C none) (h' := (hp.push (PySem.W.kdv_tup [u])).push (PySem.HandSPX.excO C hp.objs.size)) kk hsz (exo_ok hget)
  have e0 := I2.env0
  obtain ⟨mb, b1, b2⟩ := e0.mod.blt
  have eK : X.K.lookup (hp.objs.size + 1) = none := by
    cases z : X.K.lookup (hp.objs.size + 1) with
    | none => rfl
    | some o =>
      have := Heap.lt_size (show hp.get? (hp.objs.size + 1) = some o from I1.kIn _ _ z)
      exact absurd this (Nat.not_lt.mpr (Nat.le_succ _))
  refine wpAny_call (PySem.HandSPX.call_own F.excBase_ValueError (fun Y => PySem.HandSPX.refsVE_contains Y bm hbm) (I1.kIn _ _ hC) (PySem.W.looks_findIn I1.kIn T.ini) (fun self => PySem.W.bind_fn I1.kIn self T.tyI) (by show 1 ≤ _; rw [sizeLine_eq]; decide)
    (init_run T I2.kIn (e0.mod.nolimit.keeps fun b o z => (e0.bs b o z).1) (e0.mod.glob.keeps fun b o z => (e0.bs b o z).1) mS (b1.keeps fun b o z => (e0.bs b o z).1) ((b2 _ (by decide)).trans PyProof.Rows.Boot.«super») hget eK (hr.make C [u] []).depth fun h' dx tk' t1 k dn dne hx hns => ?_))
  let a : Addr := hp.objs.size + 1
  let hp2 : Heap := (hp.push (PySem.W.kdv_tup [u])).push (PySem.HandSPX.excO C hp.objs.size)
  let Ha : Hp := upd H1 a (exo a C none)
  have ea : Ha a = some (exo a C none) := upd_same
  have hp2sz : hp.objs.size ≤ hp2.objs.size := by
    show _ ≤ ((hp.push _).push _).objs.size
    rw [Heap.size_push, Heap.size_push]; omega
  have hnd : Ha dx = none := I2.hok.fresh dn
  have hnd1 : H1 dx = none := by
    have : upd H1 a (exo a C none) dx = none := hnd
    rwa [upd_ne dne] at this
  have nd : ∀ {b : Addr} {o : Obj}, hp2.get? b = some o → b ≠ dx := fun {b o} q => Nat.ne_of_lt (Nat.lt_of_lt_of_le (Heap.lt_size q) dn)
  have na : ∀ {b : Addr}, Ha b = none → b ≠ a := fun {b} n z => by
    rw [z, ea] at n
    cases n
  have Un1 : Un (frs X.stack) [] Ha (upd (upd Ha dx (exd dx [(f, v)])) a (exo a C (some dx))) hp2 h' := {
    keep := fun b o q n _ _ => k b o (na n) q
    slot := fun b o q n _ _ => ⟨o.slots, k b o (na n) q⟩
    free := fun b o q n _ => by rw [upd_ne (na n), upd_ne (nd q)]; exact n
    there := fun b o q _ => by
      by_cases hb : b = a
      · exact ⟨_, by rw [hb]; exact hx⟩
      · exact ⟨o, k b o hb q⟩
    tups := fun b xs q => by rw [upd_ne (at_ne ea q exo_tup), upd_ne (ne_of_none q hnd)]; exact q
    frzs := fun b o v q => by rw [upd_ne (at_ne ea q exo_frz), upd_ne (ne_of_none q hnd)]; exact q
    tbls := fun b ps q => ⟨#[], by rw [upd_ne (at_ne ea q exo_tbl), upd_ne (ne_of_none q hnd), q]; simp⟩ }
  have hok2 : HOk X.prog X.w (upd (upd Ha dx (exd dx [(f, v)])) a (exo a C (some dx))) h' := fun b o q => by
    by_cases hb : b = a
    · subst hb
      rw [upd_same] at q
      cases q
      exact exo_ok hx
    · rw [upd_ne hb] at q
      by_cases hd : b = dx
      · subst hd
        rw [upd_same] at q
        cases q
        exact exd_ok hns (relO_put (fs := []) rv fun g => True.intro)
      · rw [upd_ne hd] at q
        exact (I2.hok b o q).stay (fun c v hc z => k c v (by
            rcases hc with hc | hc
            · rw [hc]
              exact hb
            · exact at_ne ea hc exo_own) z)
          (fun c hc => by rw [upd_ne (at_ne ea hc exo_own), upd_ne (ne_of_none hc hnd)]; exact hc) (fun c xs hc => by rw [upd_ne (at_ne ea hc exo_tup), upd_ne (ne_of_none hc hnd)]; exact hc)
  have fin := mk_end (d2 := dr) (t2 := tk') (Q := Q) (raises_own T.oex.exC T.oex.tyC) I1 hsz kk Un1 hok2 (os2 := os) rfl I1.bare upd_same (by rw [upd_ne dne, upd_same]) hnd1 ?_
  · exact ⟨rfl, fin⟩
  · have e1 : upd (del (upd (upd Ha dx (exd dx [(f, v)])) a (exo a C (some dx))) a) dx (.xd [(f, v)]) = upd H1 dx (.xd [(f, v)]) := by
      funext b
      by_cases hd : b = dx
      · rw [hd, upd_same, upd_same]
      · rw [upd_ne hd, upd_ne hd]
        by_cases hb : b = a
        · rw [hb, del_same]; exact hn.symm
        · rw [del_ne hb, upd_ne hb, upd_ne hd]
          show upd H1 a _ b = _
          rw [upd_ne hb]
    rw [e1]
    exact hq dx hnd1
end
end PL

/-! raise Refused(..); try with several clauses, some of them with `as`. -/
namespace PL
open PySem PySem.Spec PyProof.Rows L2
section
def dAs (o : Option Nat) (D : L2.Ends) : L2.Ends := match o with
  | none => D
  | some i => { nx := fun σ' H' => D.nx (σ'.set i none) H', rt := D.rt, bk := fun σ' H' => D.bk (σ'.set i none) H', ct := fun σ' H' => D.ct (σ'.set i none) H' }
def sAs (o : Option Nat) (σ : L2.St) (a : Addr) : L2.St := match o with
  | none => σ
  | some i => σ.set i (some (.ref a))
abbrev HdL := List (Value × Option Nat × (Addr → Value → Option Addr → L2.TS))
def wMix (K : PySem.W.Frag) (Wout : WX) (D : L2.Ends) : HdL → WX
  | [] => Wout
  | (c, o, ts) :: r => fun cls d σ H => ∃ b, PySem.W.exmOne K cls c = some b ∧ (b = true → ∀ a, H a = none → ts a cls d (dAs o D) (sAs o σ a) H) ∧ (b = false → wMix K Wout D r cls d σ H)
inductive HdsMix (X : Cx) : List ExceptHandler → HdL → Prop
  | nil : HdsMix X [] []
  | cons {x : Str} {c : Value} {ts : Addr → Value → Option Addr → L2.TS} {b₀ : Stmt} {suite : List Stmt} {np pos' : Pos} {hds : List ExceptHandler} {l : HdL} (hc : Names X x c)
      (hsu : ∀ (a : Addr) (oe : Obj) (cls : Value) (d : Option Addr) (pn : List (Addr × Obj)), Zc cls d oe → (∃ vs, oe.data = .fields vs) → PSs (X.suite a ((a, oe) :: pn)) (b₀ :: suite) (ts a cls d)) (r : HdsMix X hds l) :
      HdsMix X (.ExceptHandler (some (.Name x np)) none (b₀ :: suite) pos' :: hds) ((c, none, ts) :: l)
  | consAs {x n : Str} {i : Nat} {c : Value} {ts : Addr → Value → Option Addr → L2.TS} {b₀ : Stmt} {suite : List Stmt} {np pos' : Pos} {hds : List ExceptHandler} {l : HdL} (hi : X.N[i]? = some n) (hln : X.env.kindOf n = some .local) (hc : Names X x c)
      (hsu : ∀ (a : Addr) (oe : Obj) (cls : Value) (d : Option Addr) (pn : List (Addr × Obj)), Zc cls d oe → (∃ vs, oe.data = .fields vs) → PSs (X.suite a ((a, oe) :: pn)) (b₀ :: suite) (ts a cls d)) (r : HdsMix X hds l) :
      HdsMix X (.ExceptHandler (some (.Name x np)) (some n) (b₀ :: suite) pos' :: hds) ((c, some i, ts) :: l)
variable {X : Cx} {body : List Stmt} {h₀ : ExceptHandler} {hds : List ExceptHandler} {l : HdL} {pos : Pos} {tb : WX → L2.TS} {Wout : WX}
theorem ps_try_mix (hs : X.stack = X.env :: X.outer) (hf : X.env.frame = some X.env.locals) (hN : X.N.Nodup) (tk : Takes X Wout)
    (hb : ∀ (W : WX) (pn : List (Addr × Obj)) (xe : Value → Shared → Prop), Takes (X.tr pn xe) W → PassesOwn (model X.prog X.w) X.A X.env xe → PSs (X.tr pn xe) body (tb W))
    (hh : HdsMix X (h₀ :: hds) l) : PS X (.Try body (h₀ :: hds) [] [] pos) (fun D σ H => tb (wMix X.K Wout D l) D σ H) := by
  refine ⟨fun pins s σ H D I h => ?_⟩
  have ok := I.ok
  have hfr : X.A.frames = some (X.env :: X.outer) := by rw [ok.frames, hs]
  refine wpAny_Try_except ?_
  refine wpAny_mono ((hb (wMix X.K Wout D l) (X.pn ++ pins) (fun e s₁ => wpAny (model X.prog X.w) X.A (noteFrame e X.env) (fun _ s₂ => wpAny (model X.prog X.w) X.A (setFlight e none) (fun _ s₃ =>
    wpAny (model X.prog X.w) X.A (handleBy e X.env (h₀ :: hds)) (SP X pins D) X.xe s₃) X.xe s₂) X.xe s₁) (fun u s' xx => ?_) PassesOwn.looking).run [] s σ H D (I.toTry _) h) (fun f s1 hsp => ?_) (fun e s1 he => he)
  · -- the catch
    obtain ⟨a, B, sI, pins', σ', H', cls, d, rfl, J', nb, up, sky, na, os, ag, w⟩ := xx
    have J : Inv X pins σ' H' sI := J'.ofTry ok
    have sky' : Sky B (X.env :: X.outer) a (Zc cls d) X.env.locals s'.heap := by rw [← hs]; exact sky
    show wpAny (model X.prog X.w) X.A (noteFrame (.ref a) X.env) _ _ _
    refine Sky.land Zc.steady hfr hf sky' fun h3 fl3 up3 => ?_
    have J3 : Inv X pins σ' H' { s' with heap := h3 } := J.landed nb fl3.1 (up.trans up3) os ag
    obtain ⟨oe3, vs3, he3, hz3, hd3⟩ := fl3.there
    have notFr : ∀ {h : Heap} {o : Obj} {vs : Array Value}, h.FunFrames B (X.env :: X.outer) → h.get? a = some o → o.data = .fields vs → a ∉ frs (X.env :: X.outer) := fun {h o vs} ff e dd hm => by
      obtain ⟨_, o', e', hnf⟩ := ff.mem hm
      rw [e] at e'; cases e'
      exact hnf _ dd
    have nfr := notFr fl3.2.2.1 he3 hd3
    have nL : a ≠ X.env.locals := fun z => nfr (List.mem_filterMap.mpr ⟨X.env, List.mem_cons_self, by rw [hf, z]⟩)
    have nF : a ∉ X.fs := fun hm => by
      obtain ⟨e, he, q⟩ := List.mem_filterMap.mp hm
      exact nfr (List.mem_filterMap.mpr ⟨e, List.mem_cons_of_mem _ he, q⟩)
    have S3 := J3.suite he3 hd3 na nL nF
    have tst : ∀ {x : Str} {c : Value} {np : Pos}, Names X x c → ∀ {Q : Value → Shared → Prop} {E : Value → Shared → Prop}, Q c { s' with heap := h3 } → wpAny (model X.prog X.w) (X.A.mark (some (.ref a))) (eval (.Name x np) X.env) Q E { s' with heap := h3 } := fun {x c np} hc {Q E} q => by
      obtain ⟨hg, hdbg, hm | ⟨hm, hv, hnn⟩⟩ := hc
      · exact ld_glob (X := X.suite a ((a, oe3) :: (X.pn ++ pins))) S3 hg hm q hdbg
      · exact ld_blt (X := X.suite a ((a, oe3) :: (X.pn ++ pins))) S3 hg hm hv q hnn hdbg
    have LT : PySem.W.Looks (model X.prog X.w) h3 (typeOf (.ref a)) cls := fun A Q E s k q => wpAny_typeOf_ref (k _ _ he3) (by rw [hz3.1]; exact q)
    have go : ∀ {hds' : List ExceptHandler} {l' : HdL}, HdsMix X hds' l' → wMix X.K Wout D l' cls d σ' H' →
        wpAny (model X.prog X.w) X.A (handleBy (.ref a) X.env hds') (SP X pins D) X.xe { s' with heap := h3 } := by
      intro hds' l' hk
      induction hk with
      | nil =>
        intro w
        refine wpAny_handleBy_nil ?_
        obtain ⟨k1, k2, k3, oe, vs, T, oT, ts', he, hz, hd, h1, hr⟩ := id fl3
        unfold PySem.passOn
        refine wpAny_bind (wpAny_field he hd h1 ?_)
        rw [if_neg (show ¬ ((Value.ref T == Value.none) = true) from by simp)]
        have fin : wpAny (model X.prog X.w) X.A (setFlight (.ref a) X.env.frame) (fun _ s4 => wpAny (model X.prog X.w) X.A (throw (.ref a) : Sem Flow) (SP X pins D) X.xe s4) X.xe { s' with heap := h3 } := by
          rw [hf]
          refine HandSPX.setFlight_upZ fl3 fun h4 hh4 up4 => wpAny_throw (tk _ _ ?_)
          exact ⟨a, B, sI, pins, σ', H', cls, d, rfl, J, nb, (up.trans up3).trans up4, .inr (.inr (by rw [hs]; exact hh4)), na, os, ag, w⟩
        first
          | exact wpAny_bind (wpAny_pure (wpAny_bind fin))
          | exact wpAny_bind fin
      | @cons x c ts b₀ suite np pos' hds2 l2 hc hsu r ih =>
        intro w
        obtain ⟨b, hb1, hyes, hno⟩ := w
        refine wpAny_handleBy_cons (codeAny_handlers_test ?_) (by intro q; cases q)
        have LM := PySem.W.exm_one (M := model X.prog X.w) (J3.kIn) LT hb1
        refine tst hc (LM.here ?_)
        cases b with
        | true =>
          refine codeAny_handlers_suite ?_
          refine HandSPX.lands_againZ fl3 fun h4 fl4 up4 => ?_
          have J4 : Inv X pins σ' H' { s' with heap := h4 } := J.landed nb fl4.1 ((up.trans up3).trans up4) os ag
          obtain ⟨oe4, vs4, he4, hz4, hd4⟩ := fl4.there
          have S4 := J4.suite he4 hd4 na nL nF
          refine wpAny_mono ((hsu a oe4 cls d (X.pn ++ pins) hz4 ⟨_, hd4⟩).run [] _ _ H' _ S4 (hyes rfl a na)) (fun f s6 hsp => ?_) (fun _ _ z => False.elim z)
          cases f with
          | next =>
            obtain ⟨σ6, H6, S6, q6⟩ := hsp
            exact ⟨_, _, S6.unsuite ok, q6⟩
          | brk =>
            obtain ⟨σ6, H6, S6, q6⟩ := hsp
            exact ⟨_, _, S6.unsuite ok, q6⟩
          | cont =>
            obtain ⟨σ6, H6, S6, q6⟩ := hsp
            exact ⟨_, _, S6.unsuite ok, q6⟩
          | ret u =>
            obtain ⟨v6, σ6, H6, S6, r6, q6⟩ := hsp
            exact ⟨_, _, _, S6.unsuite ok, r6, q6⟩
        | false =>
          show wpAny _ X.A (handleBy (.ref a) X.env hds2) _ _ _
          exact ih (hno rfl)
      | @consAs x n i c ts b₀ suite np pos' hds2 l2 hi hln hc hsu r ih =>
        intro w
        have hloc : Loc X.env.scope n := .inl hln
        obtain ⟨b, hb1, hyes, hno⟩ := w
        refine wpAny_handleBy_cons (codeAny_handlers_test ?_) (by intro q; cases q)
        have LM := PySem.W.exm_one (M := model X.prog X.w) (J3.kIn) LT hb1
        refine tst hc (LM.here ?_)
        cases b with
        | true =>
          refine codeAny_handlers_suite_as ?_
          refine HandSPX.lands_againZ fl3 fun h4 fl4 up4 => ?_
          have J4 : Inv X pins σ' H' { s' with heap := h4 } := J.landed nb fl4.1 ((up.trans up3).trans up4) os ag
          obtain ⟨oe4, vs4, he4, hz4, hd4⟩ := fl4.there
          have S4 := J4.suite he4 hd4 na nL nF
          refine store_ok (X := X.suite a ((a, oe4) :: (X.pn ++ pins))) (v := .ref a) S4 hN hi hloc rfl (fun s5 S5 => ?_) (.inr hln)
          refine wpAny_mono ((hsu a oe4 cls d (X.pn ++ pins) hz4 ⟨_, hd4⟩).run [] s5 _ H' _ S5 (hyes rfl a na)) (fun f s6 hsp => ?_) (fun _ _ z => False.elim z)
          have end_ : ∀ {σ6 : L2.St} {H6 : Hp} {Q : Shared → Prop}, Inv (X.suite a ((a, oe4) :: (X.pn ++ pins))) [] σ6 H6 s6 → (∀ s7, Inv X pins (σ6.set i none) H6 s7 → Q s7) →
              wpAny (model X.prog X.w) X.A (do bindName X.env n .none; unbindBehindTheSuite X.env n pos') (fun _ s7 => Q s7) X.xe s6 := fun {σ6 H6 Q} S6 hq => gone_ok (S6.unsuite ok) hN hi hln hq
          cases f with
          | next =>
            obtain ⟨σ6, H6, S6, q6⟩ := hsp
            exact end_ S6 fun s7 J7 => ⟨_, _, J7, q6⟩
          | brk =>
            obtain ⟨σ6, H6, S6, q6⟩ := hsp
            exact end_ S6 fun s7 J7 => ⟨_, _, J7, q6⟩
          | cont =>
            obtain ⟨σ6, H6, S6, q6⟩ := hsp
            exact end_ S6 fun s7 J7 => ⟨_, _, J7, q6⟩
          | ret u =>
            obtain ⟨v6, σ6, H6, S6, r6, q6⟩ := hsp
            exact end_ S6 fun s7 J7 => ⟨_, _, _, J7, r6, q6⟩
        | false =>
          show wpAny _ X.A (handleBy (.ref a) X.env hds2) _ _ _
          exact ih (hno rfl)
    exact go hh w
  · cases f with
    | next =>
      obtain ⟨σ', H', J', q⟩ := hsp
      exact wpAny_execs_nil ⟨σ', H', J'.ofTry ok, q⟩
    | brk =>
      obtain ⟨σ', H', J', q⟩ := hsp
      exact ⟨σ', H', J'.ofTry ok, q⟩
    | cont =>
      obtain ⟨σ', H', J', q⟩ := hsp
      exact ⟨σ', H', J'.ofTry ok, q⟩
    | ret u =>
      obtain ⟨v, σ', H', J', r, q⟩ := hsp
      exact ⟨v, σ', H', J'.ofTry ok, r, q⟩
end
section
variable {X : Cx} {κ : Cls} {W : XK} {pos : Pos} {e : Expr} {ta : uE}
/-- raise Refused(e) -/
theorem js_raiseR {C fI cc cda : Addr} {qual x y : Str} {scope : Scope} {body : List Stmt} {params : Arguments} {p cp : Pos} {k : Nat} (T : InitC X.K X.prog C fI cc cda qual scope body params x "reason") (hc : X.calm = true) (tk : Takes X (fun cls d _ H => W cls d H)) (hr : Room (k + 1) X.A)
    (hg : Gl X y) (hm : X.mg y = some (.ref C)) (mS : X.mg "super" = none) (hκ : κ.r = some (.ref C)) (he : JE X κ W e ta) (hdb : (y == ("__debug__" : Str)) = false := by decide) (hst : starEach [e] X.env = [(false, eval e X.env)] := by rfl) :
    JS X κ W (.Raise (some (.Call (.Name y p) [e] [] cp)) none pos) (s_raiseR ta) := PS.weak (ps_raise hc tk (pmk_init T hr hg hm mS he hdb hst)) fun E σ H ⟨g0, H0, g, ρ, P, L, q, S⟩ => by
  refine ⟨g0, H0, g, ρ, _, P.ex, L, q, fun g' H' v d e1 r hp dd hdd => ?_, S.ex⟩
  unfold strQ at hp
  split at hp
  · rename_i s
    cases r
    have e2 := Ext.fresh e1.wf hdd (o := .xd [("reason", .str s)])
    exact S.ex (.refused s) g' _ _ _ ((L.ex.trans L.w0 e1).trans L.w0 e2) ⟨hκ, dd, rfl, upd_same⟩ hp
  · exact hp.elim
/-- try: body except Malformed: suite except Refused as n: return e2 -/
theorem js_tryMR {x x2 n : Str} {i : Nat} {np np2 pos1 pos2 rp : Pos} {C C2 : Value} {b₀ : Stmt} {suite bd : List Stmt} {e2 : Expr} {t u : uS} {F : Str → (D → Prop) → Prop} {te2 : Addr → Value → Option Addr → L2.TE} (hs : X.stack = X.env :: X.outer) (hf : X.env.frame = some X.env.locals) (hN : X.N.Nodup)
    (hn : Names X x C) (hnr : Names X x2 C2) (hi : X.N[i]? = some n) (hln : X.env.kindOf n = some .local) (tk : Takes X (fun cls d _ H => W cls d H)) (hκ : κ.m = some C) (hκ2 : κ.r = some C2)
    (hyes : PySem.W.exmOne X.K C C = some true) (hyes2 : PySem.W.exmOne X.K C2 C2 = some true) (hno : PySem.W.exmOne X.K C2 C = some false)
    (hn2 : ∀ c, κ.n = some c → PySem.W.exmOne X.K c C = some false ∧ PySem.W.exmOne X.K c C2 = some false)
    (hb : ∀ (W' : XK) (pn : List (Addr × Obj)) (xe : Value → Shared → Prop), Takes (X.tr pn xe) (fun cls d _ H => W' cls d H) → PassesOwn (model X.prog X.w) X.A X.env xe → JSs (X.tr pn xe) κ W' bd t)
    (hsu : ∀ (a : Addr) (pn : List (Addr × Obj)), JSs (X.suite a pn) κ E0 (b₀ :: suite) u)
    (he2 : ∀ (a : Addr) (oe : Obj) (cls : Value) (d : Option Addr) (pn : List (Addr × Obj)), Zc cls d oe → (∃ vs, oe.data = .fields vs) → L2.PE (X.suite a ((a, oe) :: pn)) e2 (te2 a cls d))
    (hte : ∀ (a : Addr) (dd : Addr) (r : Str) (g0 : Gh) (H0 : Hp) (g : Gh) (σ : L2.St) (H : Hp) (Q : VK) (P : D → Prop), WFg X.K g0 H0 → Ext X.K g0 H0 g H → i < σ.length → H dd = some (.xd [("reason", .str r)]) → F r P → (∀ g' H' v d, Ext X.K g H g' H' → Rp X.K g'.G v d → P d → Q v H') → te2 a C2 (some dd) (σ.set i (some (.ref a))) H Q) :
    JS X κ W (.Try bd [.ExceptHandler (some (.Name x np)) none (b₀ :: suite) pos1, .ExceptHandler (some (.Name x2 np2)) (some n) [.Return (some e2) rp] pos2] [] [] pos) (s_tryMR X.N.length t u F) := by
  refine PS.weak (ps_try_mix (tb := fun W1 => tS X.K κ (fun cls d H => ∀ σ : L2.St, σ.length = X.N.length → W1 cls d σ H) t) (l := [(C, none, fun _ _ _ => tS X.K κ E0 u), (C2, some i, fun a cls d E σ H => te2 a cls d σ H E.rt)]) hs hf hN tk
    (fun W1 pn xe tk1 po => hb _ pn xe (takes_len tk1 fun c d σ H hl h => h σ hl) po) (.cons hn (fun a oe cls d pn _ _ => hsu a ((a, oe) :: pn)) (.consAs hi hln hnr (fun a oe cls d pn hz hd => pss_one (ps_ret (he2 a oe cls d pn hz hd))) .nil))) fun E σ H ⟨g0, H0, g, ρ, P, L, q, S⟩ => ?_
  refine ⟨g0, H0, g, ρ, _, L, q, S.nx, S.rt, S.bk, S.ct, fun ex g' H' c d ee xr hx σ' hσ => ?_⟩
  cases ex with
  | malformed =>
    obtain ⟨k1, k2⟩ := xr
    rw [hκ] at k1; cases k1
    refine ⟨true, hyes, ⟨fun _ a ha => ?_, fun z => (Bool.noConfusion z)⟩⟩
    exact ⟨g0, H0, g', emps X.N.length, _, lk_emps L.w0 ee hσ, hx, fun _ _ _ _ _ _ z => z.elim, S.rt, fun _ _ _ _ _ _ z => z.elim, fun _ _ _ _ _ _ z => z.elim, lx_none⟩
  | refused r =>
    obtain ⟨k1, dd, k2, k3⟩ := xr
    rw [hκ2] at k1; cases k1
    refine ⟨false, hno, ⟨fun z => (Bool.noConfusion z), fun _ => ⟨true, hyes2, ⟨fun _ a ha => ?_, fun z => (Bool.noConfusion z)⟩⟩⟩⟩
    subst k2
    have hil : i < σ'.length := by
      rw [hσ]
      exact (List.getElem?_eq_some_iff.mp hi).1
    exact hte a dd r g0 H0 g' σ' H' _ P.rt L.w0 ee hil k3 hx fun g2 H2 v d e2 rr hp => S.rt g2 H2 v d (ee.trans L.w0 e2) rr hp
  | noText z =>
    have ⟨m1, m2⟩ := hn2 c xr.1
    exact ⟨false, m1, ⟨fun z => (Bool.noConfusion z), fun _ => ⟨false, m2, ⟨fun z => (Bool.noConfusion z), fun _ => S.ex (.noText z) g' H' c d ee xr hx⟩⟩⟩⟩
end
end PL

/-! except Refused as n: return "<" + n.reason + ">" -/
namespace PL
open PySem PySem.Spec PyProof.Rows L2
section
variable {X : Cx} {κ : Cls} {W : XK} {pos : Pos}
theorem angle_pe {n : Str} {i : Nat} {C2 : Addr} {p1 p2 p3 p4 p5 : Pos} {j1 j2} (T : XfC X.K C2) (hno : PySem.W.findIn X.K (.ref C2) "reason" = some none) (hi : X.N[i]? = some n) (hln : Vis X.env.scope n) (hd : (n == ("__debug__" : Str)) = false) (hcd : (n == ("__classdict__" : Str)) = false)
    (hb : attributeBase (.Name n p4) "reason" X.env (eval (.Name n p4) X.env) = eval (.Name n p4) X.env) :
    ∃ te2 : Addr → Value → Option Addr → L2.TE,
      (∀ (a : Addr) (oe : Obj) (cls : Value) (d : Option Addr) (pn : List (Addr × Obj)), Zc cls d oe → (∃ vs, oe.data = .fields vs) → L2.PE (X.suite a ((a, oe) :: pn)) (.BinOp (.BinOp (.Constant (.str "<") j1 p1) .Add (.Attribute (.Name n p4) "reason" p5) p2) .Add (.Constant (.str ">") j2 p3) pos) (te2 a cls d)) ∧
      (∀ (a : Addr) (dd : Addr) (r : Str) (g0 : Gh) (H0 : Hp) (g : Gh) (σ : L2.St) (H : Hp) (Q : VK) (P : D → Prop), WFg X.K g0 H0 → Ext X.K g0 H0 g H → i < σ.length → H dd = some (.xd [("reason", .str r)]) → F_angle r P → (∀ g' H' v d, Ext X.K g H g' H' → Rp X.K g'.G v d → P d → Q v H') → te2 a (.ref C2) (some dd) (σ.set i (some (.ref a))) H Q) := by
  refine ⟨fun a cls d => _, fun a oe cls d pn hz hf => pe_op op_add_str (pe_op op_add_str pe_str (pe_xf T hno hz hf (pe_var hi hln hd hcd) hb)) pe_str, fun a dd r g0 H0 g σ H Q P w e hil hdd hF hQ => ?_⟩
  have hl : (σ.set i (some (V.ref a)))[i]? = some (some (.ref a)) := by rw [List.getElem?_set_self hil]
  have hlen1 : (("<" : Str) ++ r).length = 1 + r.length := by
    show ((Str.append ("<" : Str) r).cps).size = _
    simp only [Str.append, Array.size_append]
    rfl
  have l1 : r.length + 2 ≤ sizeLine := Nat.le_trans hF.1 ln_size
  refine ⟨.ref a, hl, rfl, rfl, dd, _, .str r, rfl, hdd, rfl, ?_⟩
  refine ⟨_, _, rfl, rfl, ?_, ?_⟩
  · show 1 + r.length ≤ _
    omega
  · refine ⟨_, _, rfl, rfl, ?_, hQ g H _ _ (Ext.refl e.wf) (.str _) hF.2⟩
    rw [hlen1]
    show 1 + r.length + 1 ≤ _
    omega
end
end PL

/-! The facts of an exception class with a field, from the kept text. -/
namespace PL
open PySem PySem.Spec PyProof.Rows L2
/-- a class of the program's over ValueError, with its own dicts -/
def oexIn (K : PySem.W.Frag) (C : Addr) : Bool := match K.lookup C with
  | some ⟨.type "type", _, .cls cd, sl⟩ => (match cd.mro, sl.toList with
    | .ref C' :: bm, [_, _, _, _, some (.builtin n), _] => C' == C && n == "ValueError.__new__" && !cd.hasDel && cd.hasDict && PySem.HandSPX.refsVE bm
    | _, _ => false)
  | _ => false
theorem oexIn_ok {K : PySem.W.Frag} {C : Addr} (q : oexIn K C = true) : ∃ nm q N bs bm sn sub ab col dd k0 k1 k2 k3 k5, K.lookup C = some (excClassObj nm q C N bs bm true sn sub ab col dd k0 k1 k2 k3 k5 "ValueError.__new__") ∧ PySem.HandSPX.refsVE bm = true := by
  unfold oexIn at q
  split at q
  · rename_i dd cd sl ho
    split at q
    · rename_i C' bm k0 k1 k2 k3 n k5 hm hs
      simp only [Bool.and_eq_true, beq_iff_eq, Bool.not_eq_true'] at q
      obtain ⟨⟨⟨⟨rfl, rfl⟩, hdel⟩, hd⟩, ht⟩ := q
      obtain ⟨nm, bs, mro, ns, qn, hdd, sn, sub, ab, col, del⟩ := cd
      dsimp only at hm hdel hd
      subst hm hdel hd
      have hsl : sl = #[k0, k1, k2, k3, some (.builtin "ValueError.__new__"), k5] := by
        obtain ⟨l⟩ := sl
        simp only at hs
        rw [hs]
      subst hsl
      exact ⟨nm, qn, ns, bs, bm, sn, sub, ab, col, dd, k0, k1, k2, k3, k5, ho, ht⟩
    · cases q
  · cases q
theorem exm_of {K : PySem.W.Frag} {R M : Addr} {b : Bool} (h1 : PySem.W.subIn K (.ref M) (.type "BaseException") = some true) (h2 : PySem.W.isClsIn K M = true) (h3 : PySem.W.typeIn K (.ref M) = some (.type "type")) (h2' : PySem.W.isClsIn K R = true) (h3' : PySem.W.typeIn K (.ref R) = some (.type "type")) (h4 : PySem.W.subIn K (.ref R) (.ref M) = some b) :
    PySem.W.exmOne K (.ref R) (.ref M) = some b := by
  have e1 : (PySem.W.subIn K (.ref M) (.type "BaseException") == some true) = true := by rw [h1] <;> rfl
  unfold PySem.W.exmOne
  rw [if_pos e1]
  unfold PySem.W.kitCls
  have g1 : (PySem.W.clsIn K M).isSome = true := h2
  have g2 : (PySem.W.clsIn K R).isSome = true := h2'
  simp only [g1, g2, h3, h3', beq_self_eq_true, Bool.and_self, Bool.and_true, if_true]
  exact h4
def inCls (s : Stmt) (j : Nat) : Stmt := match s with
  | .ClassDef _ _ _ body _ _ _ _ _ _ _ => body.getD j (.Pass ⟨0, 0, 0, 0⟩)
  | _ => .Pass ⟨0, 0, 0, 0⟩
section
variable {X : Cx} {κ : Cls} {W : XK} {pos : Pos}
/-- try: .. except Malformed: .. except Refused as n: return "<" + n.reason + ">" -/
theorem js_tryMRa {x x2 n : Str} {i : Nat} {np np2 pos1 pos2 rp : Pos} {C : Value} {C2 : Addr} {b₀ : Stmt} {suite bd : List Stmt} {t u : uS} {p1 p2 p3 p4 p5 p6 : Pos} {j1 j2} (hs : X.stack = X.env :: X.outer) (hf : X.env.frame = some X.env.locals) (hN : X.N.Nodup)
    (hn : Names X x C) (hnr : Names X x2 (.ref C2)) (hi : X.N[i]? = some n) (hln : X.env.kindOf n = some .local) (tk : Takes X (fun cls d _ H => W cls d H)) (hκ : κ.m = some C) (hκ2 : κ.r = some (.ref C2))
    (hyes : PySem.W.exmOne X.K C C = some true) (hyes2 : PySem.W.exmOne X.K (.ref C2) (.ref C2) = some true) (hno : PySem.W.exmOne X.K (.ref C2) C = some false)
    (hn2 : ∀ c, κ.n = some c → PySem.W.exmOne X.K c C = some false ∧ PySem.W.exmOne X.K c (.ref C2) = some false)
    (hb : ∀ (W' : XK) (pn : List (Addr × Obj)) (xe : Value → Shared → Prop), Takes (X.tr pn xe) (fun cls d _ H => W' cls d H) → PassesOwn (model X.prog X.w) X.A X.env xe → JSs (X.tr pn xe) κ W' bd t)
    (hsu : ∀ (a : Addr) (pn : List (Addr × Obj)), JSs (X.suite a pn) κ E0 (b₀ :: suite) u)
    (T : XfC X.K C2) (hfo : PySem.W.findIn X.K (.ref C2) "reason" = some none) (hv : Vis X.env.scope n) (hd : (n == ("__debug__" : Str)) = false) (hcd : (n == ("__classdict__" : Str)) = false)
    (hab : attributeBase (.Name n p4) "reason" X.env (eval (.Name n p4) X.env) = eval (.Name n p4) X.env) :
    JS X κ W (.Try bd [.ExceptHandler (some (.Name x np)) none (b₀ :: suite) pos1, .ExceptHandler (some (.Name x2 np2)) (some n) [.Return (some (.BinOp (.BinOp (.Constant (.str "<") j1 p1) .Add (.Attribute (.Name n p4) "reason" p5) p2) .Add (.Constant (.str ">") j2 p3) p6)) rp] pos2] [] [] pos) (s_tryMR X.N.length t u F_angle) := by
  obtain ⟨te2, h1, h2⟩ := angle_pe (pos := p6) (p1 := p1) (p2 := p2) (p3 := p3) (p4 := p4) (p5 := p5) (j1 := j1) (j2 := j2) T hfo hi hv hd hcd hab
  exact js_tryMR hs hf hN hn hnr hi hln tk hκ hκ2 hyes hyes2 hno hn2 hb hsu h1 h2
end
end PL

namespace PL
open PySem PySem.Spec PyProof.Rows L2
/-! ### a list of lists of the def's own -/
section
variable {K : PySem.W.Frag} {g0 g : Gh} {H0 H : Hp} {σ : L2.St} {ρ : Env}
theorem nstOf_some {Q : List (List D) → Prop} {o : Option Sl} (h : nstOf Q o) : ∃ rs, o = some (.nst rs) ∧ Q rs := by
  unfold nstOf at h
  split at h
  · exact ⟨_, rfl, h⟩
  · exact h.elim
theorem ixOf_ixN {n : Nat} {z : Int} {Q : Nat → Prop} (h : ixOf n z Q) : ∃ j, ixN n z = some j ∧ j < n ∧ Q j := by
  unfold ixOf at h
  unfold ixN
  by_cases hz : 0 ≤ z
  · rw [if_pos hz] at h ⊢
    exact ⟨z.toNat, by rw [if_pos h.1], by omega, h.2⟩
  · rw [if_neg hz] at h ⊢
    exact ⟨(z + n).toNat, by rw [if_pos h.1], by omega, h.2⟩
/-- row k -/
theorem NR.row {vs : List V} {rs : List (List D)} (r : NR K g H vs rs) : ∀ {j : Nat}, j < rs.length → ∃ q us, vs[j]? = some (.ref q) ∧ g.G q = none ∧ ¬ g.Dr q ∧ H q = some (.lst us) ∧ RpL K g.G us (rs.getD j []) := by
  induction r with
  | nil => intro j h; cases h
  | @cons q ws us ds rs h1 h2 h3 r t ih =>
    intro j hj
    cases j with
    | zero => exact ⟨q, us, rfl, h1, h2, h3, r⟩
    | succ j => exact ih (by simpa using hj)
theorem NR.setRow {vs : List V} {rs : List (List D)} (r : NR K g H vs rs) (nd : vs.Nodup) : ∀ {j : Nat} {q : Addr} {us : List V} {ds : List D}, vs[j]? = some (.ref q) → RpL K g.G us ds → NR K g (upd H q (.lst us)) vs (rs.set j ds) := by
  induction r with
  | nil => intro j q us ds h; cases h
  | @cons q0 ws us0 ds0 rs h1 h2 h3 r t ih =>
    intro j q us ds h hr
    rw [List.nodup_cons] at nd
    cases j with
    | zero =>
      have : q0 = q := by simpa using h
      subst this
      exact .cons h1 h2 upd_same hr (t.updO nd.1)
    | succ j =>
      have hm : ws[j]? = some (.ref q) := by simpa using h
      have hq : q0 ≠ q := fun z => nd.1 (by rw [z]; exact List.mem_of_getElem? hm)
      exact .cons h1 h2 (by rw [upd_ne hq]; exact h3) r (ih nd.2 hm hr)
theorem Lk.nst (L : Lk K g0 H0 g H σ ρ) {i : Nat} {rs : List (List D)} (h : ρ[i]? = some (.nst rs)) :
    ∃ p vs, σ[i]? = some (some (.ref p)) ∧ g.G p = none ∧ ¬ g.Dr p ∧ H p = some (.lst vs) ∧ NR K g H vs rs ∧ vs.Nodup ∧ V.ref p ∉ vs := by
  obtain ⟨o, e, r⟩ := L.at h
  cases r with
  | nst k1 k2 k3 r nd na => exact ⟨_, _, e, k1, k2, k3, r, nd, na⟩
/-- row j now holds others -/
theorem Lk.chgRow (L : Lk K g0 H0 g H σ ρ) {i j : Nat} {p q : Addr} {vs us : List V} {rs : List (List D)} {ds : List D} (h : ρ[i]? = some (.nst rs)) (hσ : σ[i]? = some (some (.ref p)))
    (hp : H p = some (.lst vs)) (hj : vs[j]? = some (.ref q)) (r : RpL K g.G us ds) : Lk K g0 H0 g (upd H q (.lst us)) σ (ρ.set i (.nst (rs.set j ds))) := by
  obtain ⟨p', vs', e, k1, k2, k3, nr, nd, na⟩ := L.nst h
  rw [hσ] at e; cases e
  rw [hp] at k3; cases k3
  have hm : V.ref q ∈ vs := List.mem_of_getElem? hj
  have hqp : p ≠ q := fun z => na (by rw [z]; exact hm)
  refine L.chg hσ h (.inn hp hm) (.nst k1 k2 (by rw [upd_ne hqp]; exact hp) (nr.setRow nd hj r) nd na) fun b hb => ?_
  cases hb with
  | nst => exact .nst
  | inn h1 m1 =>
    rw [upd_ne hqp, hp] at h1; cases h1
    exact .inn hp m1
end
section
variable {X : Cx} {κ : Cls} {W : XK} {pos : Pos} {tg a b c e r k elt iter : Expr} {ta tb tc te : uE} {ti : uI} {ca : uC} {tf : uF}
/-- rows[k], read at once -/
theorem jb_nix (i : Nat) {x : Str} {p1 : Pos} {tk : uE} (hk : JB X κ W a tk) (hs : PlainIx a) (hN : X.N[i]? = some x := by rfl) (hv : Vis X.env.scope x := by first | exact Or.inl rfl | exact Or.inr (Or.inl rfl) | exact Or.inr (Or.inr rfl)) (hd : (x == ("__debug__" : Str)) = false := by decide)
    (hcd : (x == ("__classdict__" : Str)) = false := by decide) : JB X κ W (.Subscript (.Name x p1) a pos) (b_nix i tk) :=
  PE.weak (pe_ix ix_seq (pe_var hN hv hd hcd) hk hs) fun σ H Q ⟨g0, H0, g, ρ, P, x, L, q, hQ, hx⟩ => by
  obtain ⟨rs, hρ, q⟩ := nstOf_some q
  obtain ⟨p, vs, hσ, n1, n2, hp, nr, nd, na⟩ := L.nst hρ
  refine ⟨_, hσ, g0, H0, g, ρ, _, x, L, q, fun g1 H1 kv kd e1 rk q1 => ?_, hx⟩
  obtain ⟨z, rfl, q1⟩ := nOf_int rk q1
  obtain ⟨j, hj, hjl, q1⟩ := ixOf_ixN q1
  have nr1 := nr.ext e1
  obtain ⟨m1, m2, m3⟩ := e1.keepNew n1 n2 hp
  obtain ⟨qa, us, w1, w2, w3, w4, w5⟩ := nr1.row hjl
  have hat : atI vs z = some (V.ref qa) := by
    unfold atI
    rw [nr.len, hj]
    exact w1
  exact .inl ⟨p, vs, z, _, rfl, rfl, SqL.of m3, hat, hQ g1 H1 _ _ e1 (.inr ⟨_, _, _, rfl, rfl, w2, w3, w4, w5⟩) q1⟩
/-- rows[r][k] = v -/
theorem js_sub2 (i : Nat) {x : Str} {p1 p3 tpos : Pos} {tr tk : uE} (hv : JE X κ W b tb) (hr : JB X κ W r tr) (hk : JB X κ W a tk) (hs3 : PlainIx r) (hN : X.N[i]? = some x := by rfl) (hvis : Vis X.env.scope x := by first | exact Or.inl rfl | exact Or.inr (Or.inl rfl) | exact Or.inr (Or.inr rfl)) (hd : (x == ("__debug__" : Str)) = false := by decide)
    (hcd : (x == ("__classdict__" : Str)) = false := by decide)
    (ha : ∀ v, assign (.Subscript (.Subscript (.Name x p1) r p3) a tpos) X.env v = (do
      let ov ← holding [v] (eval (.Subscript (.Name x p1) r p3) X.env)
      let iv ← holding [v, ov] (eval a X.env)
      standAt tpos
      holding [v, ov, iv] (setItem ov iv v)
      release [v, ov, iv] []) := by intro _; rfl)
    (hs : swapsWithSole [.Subscript (.Subscript (.Name x p1) r p3) a tpos] b pos.line X.env = pure false := by rfl) (hw : swappedStores [.Subscript (.Subscript (.Name x p1) r p3) a tpos] b X.env = pure none := by rfl)
    (h1 : (assignEach [.Subscript (.Subscript (.Name x p1) r p3) a tpos] X.env).map (·.2) = [assign (.Subscript (.Subscript (.Name x p1) r p3) a tpos) X.env] := by rfl) :
    JS X κ W (.Assign [.Subscript (.Subscript (.Name x p1) r p3) a tpos] b pos) (s_sub2 i tr tk tb) :=
  PS.weak (ps_asg hv (pg_sub (pe_ix ix_seq (pe_var hN hvis hd hcd) hr hs3) hk set_list ha) hs hw h1) fun E σ H ⟨g0, H0, g, ρ, P, L, q, S⟩ => by
  refine ⟨g0, H0, g, ρ, _, P.ex, L, q, fun g1 H1 v d e1 rv q1 => ?_, S.ex⟩
  obtain ⟨rs, hρ, q1⟩ := nstOf_some q1
  have L1 := L.ext e1
  obtain ⟨p, vs, hσ, n1, n2, hp, nr, nd, na⟩ := L1.nst hρ
  refine ⟨_, hσ, g0, H0, g1, ρ, _, P.ex, L1, q1, fun g2 H2 rv2 rd e2 rr q2 => ?_, S.ex⟩
  obtain ⟨z, rfl, q2⟩ := nOf_int rr q2
  obtain ⟨j, hj, hjl, q2⟩ := ixOf_ixN q2
  have nr2 := nr.ext e2
  obtain ⟨m1, m2, m3⟩ := e2.keepNew n1 n2 hp
  obtain ⟨qa, us, w1, w2, w3, w4, w5⟩ := nr2.row hjl
  have hat : atI vs z = some (V.ref qa) := by
    unfold atI
    rw [nr.len, hj]
    exact w1
  refine .inl ⟨p, vs, z, _, rfl, rfl, SqL.of m3, hat, ?_⟩
  have L2' := L1.ext e2
  refine ⟨g0, H0, g2, ρ, _, P.ex, L2', q2, fun g3 H3 kv kd e3 rk q3 => ?_, S.ex⟩
  obtain ⟨y, rfl, q3⟩ := nOf_int rk q3
  obtain ⟨b, hb, hbl, q3⟩ := ixOf_ixN q3
  obtain ⟨x1, x2, x3⟩ := e3.keepNew m1 m2 m3
  obtain ⟨y1, y2, y3⟩ := e3.keepNew w2 w3 w4
  refine ⟨qa, us, y, b, rfl, rfl, y3, by rw [w5.len]; exact hb, ?_⟩
  exact S.nx g3 _ σ _ ((L2'.ext e3).chgRow hρ hσ x3 w1 ((w5.sub e3.gg).set (Rp.sub (e2.gg.trans e3.gg) rv) b)) ((e1.gg.trans e2.gg).trans e3.gg) q3
/-- the reading of a comprehension of fresh lists -/
theorem tLcN_of {G : uG} {sl own : List Nat} (hown : ∀ i ∈ sl, i ∈ own) (σ : L2.St) (H : Hp) (Q : VK) {g0 g : Gh} {H0 : Hp} {ρ : Env} {x : EX} {P : List (List D) → Prop} (L : Lk X.K g0 H0 g H σ ρ)
    (q : ti ρ (fun ds => ds.length ≤ LN ∧ lcN G ca tf (wipeE ρ own) P ds []) x) (hx : LX X.K κ g0 H0 x W)
    (hQ : ∀ g' H' p vs rs, Ext X.K g H g' H' → H p = none → g'.G p = none → ¬ g'.Dr p → H' p = some (.lst vs) → NR X.K g' H' vs rs → vs.Nodup → (∀ u, V.ref u ∈ vs → H u = none ∧ u ≠ p) → P rs → Q (.ref p) H') :
    L2.tLc (tIb X.K κ W ti) (tG X.K sl G) (tC X.K κ E0 ca) (tF X.K κ E0 tf) own σ H Q := by
  refine ⟨g0, H0, g, ρ, _, x, L, q, fun g1 H1 J ds e1 wk q1 => ?_, hx⟩
  obtain ⟨hlen, q1⟩ := q1
  have L1 := (L.ext e1).wipe own
  intro Dn nD
  have wf1 := e1.wf
  refine ⟨fun i m Hi => m = ds.length - i ∧ i ≤ ds.length ∧ ∃ gi acc vs, Ext X.K g1 H1 gi Hi ∧ gi.G Dn = none ∧ ¬ gi.Dr Dn ∧ Hi Dn = some (.lst vs) ∧ NR X.K gi Hi vs acc ∧ vs.Nodup ∧ (∀ u, V.ref u ∈ vs → H1 u = none ∧ u ≠ Dn) ∧ acc.length ≤ i ∧ lcN G ca tf (wipeE ρ own) P (ds.drop i) acc, ?_, ?_⟩
  · have n := wf1.freeN nD
    exact ⟨ds.length, by simp, Nat.zero_le _, g1, [], [], Ext.fresh wf1 nD, n.1, n.2, upd_same, .nil, .nil, (fun _ h => by cases h), Nat.le_refl _, q1⟩
  · rintro i m Hi ⟨rfl, hi, gi, acc, vs, ei, n1, n2, hD, r, nd, fr, hal, q⟩
    have stab : Sub g1.G gi.G ∧ ∀ b o, H1 b = some o → ¬ g1.Dr b → Hi b = some o := ⟨ei.gg, ei.keep⟩
    obtain ⟨k1, k2⟩ := wk gi Hi ei.wf stab
    by_cases hlt : i < ds.length
    · have hd : ds[i]? = some ds[i] := List.getElem?_eq_getElem hlt
      obtain ⟨hgo, hy⟩ := k1 i _ hd
      rw [drop_cons hd] at q
      refine .inr ⟨hgo, fun H' => ∃ gi' acc' vs', Ext X.K g1 H1 gi' H' ∧ gi'.G Dn = none ∧ ¬ gi'.Dr Dn ∧ H' Dn = some (.lst vs') ∧ NR X.K gi' H' vs' acc' ∧ vs'.Nodup ∧ (∀ u, V.ref u ∈ vs' → H1 u = none ∧ u ≠ Dn) ∧ acc'.length ≤ i + 1 ∧ lcN G ca tf (wipeE ρ own) P (ds.drop (i + 1)) acc', fun H' ⟨gi', acc', vs', z⟩ => ⟨ds.length - (i + 1), by omega, rfl, hlt, gi', acc', vs', z⟩, fun xv H2 y2 => ?_⟩
      obtain ⟨g2, e2, rx⟩ := hy xv H2 y2
      obtain ⟨n1', n2', hD'⟩ := e2.keepNew n1 n2 hD
      have Lt : Lk X.K g0 H0 g2 H2 (wipe σ own) (wipeE ρ own) := L1.ext (ei.trans wf1 e2)
      refine ⟨g0, H0, g2, wipeE ρ own, _, _, Lt, rx, q, fun σ' ρ' L' hw q' => ?_⟩
      refine ⟨(hw own fun i hi => hown i hi).trans (wipe_wipe own σ), ?_⟩
      refine ⟨g0, H0, g2, ρ', _, noEx, L', q', fun g3 H3 k e3 q3 => ?_, lx_none⟩
      obtain ⟨n1'', n2'', hD''⟩ := e3.keepNew n1' n2' hD'
      have e13 := ((ei.trans wf1 e2).trans wf1 e3)
      cases k with
      | false =>
        simp only [Bool.false_eq_true, if_false] at q3 ⊢
        exact ⟨g3, acc, vs, e13, n1'', n2'', hD'', (r.ext e2).ext e3, nd, fr, Nat.le_succ_of_le hal, q3⟩
      | true =>
        simp only [if_true] at q3 ⊢
        refine ⟨g0, H0, g3, ρ', _, noEx, L'.ext e3, q3, fun g4 H4 p us es e4 p0 p1 p2 p3 rp q4 => ?_, lx_none⟩
        obtain ⟨m1, m2, mD⟩ := e4.keepNew n1'' n2'' hD''
        have e14 := e13.trans wf1 e4
        have r3 := (r.ext e2).ext e3
        have r4 : NR X.K g4 H4 vs acc := r3.ext e4
        have hpD : p ≠ Dn := fun z => by rw [z, hD''] at p0; cases p0
        have hpv : V.ref p ∉ vs := fun z => by
          obtain ⟨q, us', e, _, _, k⟩ := r3.refs _ z
          cases e
          rw [k] at p0; cases p0
        have hDv : V.ref Dn ∉ vs := fun z => (fr _ z).2 rfl
        refine ⟨vs, mD, by rw [r4.len]; have := ln_size; omega, g4, acc ++ [es], vs ++ [.ref p], e14.updNew nD m1 m2, m1, m2, upd_same, ?_, ?_, ?_, by rw [List.length_append, List.length_singleton]; omega, q4⟩
        · have app : ∀ {vs : List V} {acc : List (List D)}, NR X.K g4 (upd H4 Dn (.lst (vs ++ [.ref p]))) vs acc → True := fun _ => trivial
          have key : ∀ {ws : List V} {rs : List (List D)} {H' : Hp}, NR X.K g4 H' ws rs → H' p = some (.lst us) → NR X.K g4 H' (ws ++ [.ref p]) (rs ++ [es]) := by
            intro ws rs H' h hh
            induction h with
            | nil => exact .cons p1 p2 hh rp .nil
            | cons a1 a2 a3 a4 t ih => exact .cons a1 a2 a3 a4 ih
          refine key (r4.updO hDv) ?_
          rw [upd_ne hpD]; exact p3
        · rw [List.nodup_append]
          refine ⟨nd, by simp, fun a ha b hb => ?_⟩
          rw [List.mem_singleton.mp hb]
          exact fun z => hpv (z ▸ ha)
        · intro u hu
          rcases List.mem_append.mp hu with hu | hu
          · exact fr u hu
          · have : u = p := by simpa using hu
            subst this
            exact ⟨e13.noneOf wf1 p0, hpD⟩
    · have ei' : i = ds.length := by omega
      subst ei'
      rw [List.drop_length] at q
      refine .inl ⟨k2, ?_⟩
      exact hQ gi Hi Dn vs acc (e1.trans L.wf ei) (e1.noneOf L.wf nD) n1 n2 hD r nd (fun u hu => ⟨e1.noneOf L.wf (fr u hu).1, (fr u hu).2⟩) q
theorem nst_set {g0 g g' : Gh} {H0 H H' : Hp} {K : PySem.W.Frag} {σ : L2.St} {ρ : Env} {i : Nat} {p : Addr} {vs : List V} {rs : List (List D)} (L : Lk K g0 H0 g H σ ρ) (e : Ext K g H g' H') (n0 : H p = none) (n1 : g'.G p = none) (n2 : ¬ g'.Dr p) (hp : H' p = some (.lst vs)) (r : NR K g' H' vs rs) (nd : vs.Nodup) (fr : ∀ u, V.ref u ∈ vs → H u = none ∧ u ≠ p) :
    Lk K g0 H0 g' H' (σ.set i (some (.ref p))) (ρ.set i (.nst rs)) := by
  have free : ∀ b, H b = none → H0 b = none ∧ ∀ (j : Nat) (o : Option V) (t : Sl), j ≠ i → σ[j]? = some o → ρ[j]? = some t → Own H' o t b → False := fun b n0 => by
    refine ⟨L.ex.noneOf L.w0 n0, fun j o t hj h1 h2 h3 => ?_⟩
    obtain ⟨us, k, _⟩ := (h3.back e (L.sl j o t h1 h2)).some (L.sl j o t h1 h2)
    rw [n0] at k; cases k
  refine (L.ext e).set i (.nst n1 n2 hp r nd fun z => (fr p z).2 rfl) fun b hb => ?_
  cases hb with
  | nst => exact free p n0
  | inn h m =>
    rw [hp] at h; cases h
    exact free _ (fr _ m).1
variable {ifs : List Expr} {scope : Scope} {own : List (Str × Nat)} {sl vs : List Nat} {G : uG}
/-- y = [[..] for ..] on one line, y a local -/
theorem js_nst {i : Nat} {y : Str} {py spos : Pos} (hc : X.calm = true) (hN : X.N.Nodup) (hy : X.N[i]? = some y) (hyl : X.env.scope.names.lookup y = some .local) (hsw : swapsWith (.ListComp elt [⟨tg, iter, ifs, 0⟩] scope pos) (some (.Name y py)) spos.line X.env = pure true)
    (hi : JIb X κ W tg iter ti) (ok : BlkOk X.N X.env.scope scope own) (hvs : own.map (·.2) = vs) (hown : ∀ i ∈ sl, i ∈ vs)
    (hg : ∀ (s : Shared) (H : Hp) (C : Addr) (cl : List (Str × Addr)) (fp : List Addr), JG (X.blk s H scope (compEnvC scope cl C X.env) fp) tg sl G) (ht : ∀ (s : Shared) (H : Hp) (C : Addr) (cl : List (Str × Addr)) (fp : List Addr), JTs (X.blk s H scope (compEnvC scope cl C X.env) fp) κ E0 ifs ca)
    (he : ∀ (s : Shared) (H : Hp) (C : Addr) (cl : List (Str × Addr)) (fp : List Addr), JF (X.blk s H scope (compEnvC scope cl C X.env) fp) κ E0 elt tf) (hs : ∀ x, foldedSetIterable iter X.env x = pure x := by intro _; rfl) :
    JS X κ W (.Assign [.Name y py] (.ListComp elt [⟨tg, iter, ifs, 0⟩] scope pos) spos) (s_nst i vs ti G ca tf) := by
  subst hvs
  exact PS.weak (ps_setLc hc hN hy hyl hsw hi ok hg ht he hs) fun E σ H ⟨g0, H0, g, ρ, P, L, q, S⟩ =>
  tLcN_of (κ := κ) (W := W) hown σ H _ L q S.ex fun g' H' p vs rs e n0 n1 n2 hp r nd fr pp => S.nx g' H' _ _ (nst_set L e n0 n1 n2 hp r nd fr) e.gg pp
end
end PL

namespace PL
open PySem PySem.Spec PyProof.Rows L2
section
variable {X : Cx} {κ : Cls} {W : XK} {pos : Pos} {tg a b c d e r k elt iter : Expr} {ta tb tc td te : uE}
/-- one place of a row is set -/
theorem sub2_step {g0 g1 : Gh} {H0 H1 : Hp} {σ : L2.St} {ρ : Env} {i : Nat} {d : D} {v : V} {x : EX} {Q : Env → Prop} {tr tk : uE} (L1 : Lk X.K g0 H0 g1 H1 σ ρ) (rv : Rp X.K g1.G v d) (q1 : sub2 i tr tk d ρ Q x) (hx : LX X.K κ g0 H0 x W) {R : Hp → Prop}
    (hR : ∀ g2 H2 ρ', Lk X.K g0 H0 g2 H2 σ ρ' → Sub g1.G g2.G → Q ρ' → R H2) : ∃ v0, σ[i]? = some (some v0) ∧ tB X.K κ W tr σ H1 fun rv2 H2 => rIx X.K v0 rv2 H2 fun ov H3 => tB X.K κ W tk σ H3 fun kv H4 => rSetL ov kv v H4 R := by
  obtain ⟨rs, hρ, q1⟩ := nstOf_some q1
  obtain ⟨p, vs, hσ, n1, n2, hp, nr, nd, na⟩ := L1.nst hρ
  refine ⟨_, hσ, g0, H0, g1, ρ, _, x, L1, q1, fun g2 H2 rv2 rd e2 rr q2 => ?_, hx⟩
  obtain ⟨z, rfl, q2⟩ := nOf_int rr q2
  obtain ⟨j, hj, hjl, q2⟩ := ixOf_ixN q2
  have nr2 := nr.ext e2
  obtain ⟨m1, m2, m3⟩ := e2.keepNew n1 n2 hp
  obtain ⟨qa, us, w1, w2, w3, w4, w5⟩ := nr2.row hjl
  have hat : atI vs z = some (V.ref qa) := by
    unfold atI
    rw [nr.len, hj]
    exact w1
  refine .inl ⟨p, vs, z, _, rfl, rfl, SqL.of m3, hat, ?_⟩
  have L2' := L1.ext e2
  refine ⟨g0, H0, g2, ρ, _, x, L2', q2, fun g3 H3 kv kd e3 rk q3 => ?_, hx⟩
  obtain ⟨y, rfl, q3⟩ := nOf_int rk q3
  obtain ⟨b, hb, hbl, q3⟩ := ixOf_ixN q3
  obtain ⟨x1, x2, x3⟩ := e3.keepNew m1 m2 m3
  obtain ⟨y1, y2, y3⟩ := e3.keepNew w2 w3 w4
  refine ⟨qa, us, y, b, rfl, rfl, y3, by rw [w5.len]; exact hb, ?_⟩
  exact hR g3 _ _ ((L2'.ext e3).chgRow hρ hσ x3 w1 ((w5.sub e3.gg).set (Rp.sub (e2.gg.trans e3.gg) rv) b)) (e2.gg.trans e3.gg) q3
/-- rows[a][b], rows[c][d] = t -/
theorem js_swp2 (i j : Nat) {x y : Str} {p1 p2 p3 p4 tp1 tp2 tpos : Pos} {kt : Nat} (hc : X.calm = true) (hv : JE X κ W e te) (hka : JB X κ W a ta) (hkb : JB X κ W b tb) (hkc : JB X κ W c tc) (hkd : JB X κ W d td) (hs3 : PlainIx a) (hs4 : PlainIx c)
    (hN : X.N[i]? = some x := by rfl) (hvis : Vis X.env.scope x := by first | exact Or.inl rfl | exact Or.inr (Or.inl rfl) | exact Or.inr (Or.inr rfl)) (hd : (x == ("__debug__" : Str)) = false := by decide)
    (hcd : (x == ("__classdict__" : Str)) = false := by decide) (hN2 : X.N[j]? = some y := by rfl) (hvis2 : Vis X.env.scope y := by first | exact Or.inl rfl | exact Or.inr (Or.inl rfl) | exact Or.inr (Or.inr rfl)) (hd2 : (y == ("__debug__" : Str)) = false := by decide)
    (hcd2 : (y == ("__classdict__" : Str)) = false := by decide)
    (ha : ∀ v, assign (.Subscript (.Subscript (.Name x p1) a p3) b tp1) X.env v = (do
      let ov ← holding [v] (eval (.Subscript (.Name x p1) a p3) X.env)
      let iv ← holding [v, ov] (eval b X.env)
      standAt tp1
      holding [v, ov, iv] (setItem ov iv v)
      release [v, ov, iv] []) := by intro _; rfl)
    (hb : ∀ v, assign (.Subscript (.Subscript (.Name y p2) c p4) d tp2) X.env v = (do
      let ov ← holding [v] (eval (.Subscript (.Name y p2) c p4) X.env)
      let iv ← holding [v, ov] (eval d X.env)
      standAt tp2
      holding [v, ov, iv] (setItem ov iv v)
      release [v, ov, iv] []) := by intro _; rfl)
    (s1 : (assignEach [.Subscript (.Subscript (.Name x p1) a p3) b tp1, .Subscript (.Subscript (.Name y p2) c p4) d tp2] X.env).map (·.2) = assign (.Subscript (.Subscript (.Name x p1) a p3) b tp1) X.env :: (assignEach [.Subscript (.Subscript (.Name y p2) c p4) d tp2] X.env).map (·.2) := by rfl)
    (s2 : (assignEach [.Subscript (.Subscript (.Name y p2) c p4) d tp2] X.env).map (·.2) = assign (.Subscript (.Subscript (.Name y p2) c p4) d tp2) X.env :: (assignEach [] X.env).map (·.2) := by rfl)
    (hn : (assignEach [.Subscript (.Subscript (.Name x p1) a p3) b tp1, .Subscript (.Subscript (.Name y p2) c p4) d tp2] X.env).length = 2 := by rfl)
    (hst : (assignEach [.Subscript (.Subscript (.Name x p1) a p3) b tp1, .Subscript (.Subscript (.Name y p2) c p4) d tp2] X.env).findIdx? (·.1) = none := by rfl)
    (hs : swapsWithSole [.Tuple [.Subscript (.Subscript (.Name x p1) a p3) b tp1, .Subscript (.Subscript (.Name y p2) c p4) d tp2] kt tpos] e pos.line X.env = pure false := by rfl)
    (hw : swappedStores [.Tuple [.Subscript (.Subscript (.Name x p1) a p3) b tp1, .Subscript (.Subscript (.Name y p2) c p4) d tp2] kt tpos] e X.env = pure none := by rfl)
    (h1 : (assignEach [.Tuple [.Subscript (.Subscript (.Name x p1) a p3) b tp1, .Subscript (.Subscript (.Name y p2) c p4) d tp2] kt tpos] X.env).map (·.2) = [assign (.Tuple [.Subscript (.Subscript (.Name x p1) a p3) b tp1, .Subscript (.Subscript (.Name y p2) c p4) d tp2] kt tpos) X.env] := by rfl) :
    JS X κ W (.Assign [.Tuple [.Subscript (.Subscript (.Name x p1) a p3) b tp1, .Subscript (.Subscript (.Name y p2) c p4) d tp2] kt tpos] e pos) (s_swp2 i j ta tb tc td te) :=
  PS.weak (ps_asg hv (pg_tup hc (pgs_cons (pg_sub (pe_ix ix_seq (pe_var hN hvis hd hcd) hka hs3) hkb set_list ha) (pgs_cons (pg_sub (pe_ix ix_seq (pe_var hN2 hvis2 hd2 hcd2) hkc hs4) hkd set_list hb) pgs_nil s2) s1) hn hst) hs hw h1) fun E σ H ⟨g0, H0, g, ρ, P, L, q, S⟩ => by
  refine ⟨g0, H0, g, ρ, _, P.ex, L, q, fun g1 H1 v d e1 rv q1 => ?_, S.ex⟩
  obtain ⟨d1, d2, rfl, qq⟩ := tup2_some q1
  clear q1
  have L1 := L.ext e1
  cases rv with
  | tup sq rl =>
    cases rl with
    | cons r1 rl =>
      cases rl with
      | cons r2 rl =>
        cases rl
        refine ⟨_, _, rfl, SqT.sub e1.wf.sub sq, rfl, _, _, rfl, ?_⟩
        refine sub2_step L1 r1 qq S.ex fun g2 H2 ρ' L2 s2 q2 => ⟨_, _, rfl, ?_⟩
        refine sub2_step L2 (Rp.sub s2 r2) q2 S.ex fun g3 H3 ρ'' L3 s3 q3 => ⟨rfl, ?_⟩
        exact S.nx g3 H3 _ _ L3 ((e1.gg.trans s2).trans s3) q3
theorem upTo_data (n : Nat) : upTo 0 n = (List.range n).map fun (k : Nat) => PyData.int (k : Int) := by
  have key : ∀ (n : Nat) (lo : Int), upTo lo n = (List.range n).map fun (k : Nat) => PyData.int (lo + k) := by
    intro n
    induction n with
    | zero => intro lo; rfl
    | succ n ih =>
      intro lo
      rw [List.range_succ_eq_map, List.map_cons, List.map_map]
      show PyData.int lo :: upTo (lo + 1) n = _
      rw [ih]
      congr 1
      · simp
      · refine List.map_congr_left fun k _ => ?_
        simp [Function.comp]
        omega
  rw [key]
  exact List.map_congr_left fun k _ => by rw [Int.zero_add]
/-- list(range(n)) -/
theorem vals_of_get : ∀ (n : Nat) (f : Nat → V) (us : List Value), us.length = n → (∀ j u, us[j]? = some u → RelV (f j) u) → Vals ((List.range n).map f) us := by
  intro n f us hl h
  induction us generalizing n f with
  | nil =>
    simp at hl
    subst hl
    exact .nil
  | cons u us ih =>
    cases n with
    | zero => simp at hl
    | succ n =>
      rw [List.range_succ_eq_map, List.map_cons, List.map_map]
      exact .cons (h 0 u rfl) (ih n _ (by simpa using hl) fun j v hj => h (j + 1) v (by simpa using hj))
theorem call_list_rng (hc : X.calm = true) : CallR X (.type "list") (fun xs H Q => ∃ p n, xs = [.ref p] ∧ H p = some (.rng 0 (Int.ofNat n)) ∧ n ≤ 1000000 ∧ ∀ l, H l = none → Q (.ref l) (upd H l (.lst ((List.range n).map fun k : Nat => V.int (k : Int))))) := by
  intro pins s σ H xs us Q I r h
  obtain ⟨p, n, rfl, hp, hn, q⟩ := h
  obtain ⟨u, rfl, rx⟩ := vals1 r
  cases rx
  obtain ⟨t1, t2, t3, ho⟩ := I.hok p _ hp
  have hsz : Builtin.Range.rangeSize 0 (Int.ofNat n) 1 = (n : Int) := by
    unfold Builtin.Range.rangeSize
    rcases Nat.eq_zero_or_pos n with rfl | h
    · rfl
    · rw [if_pos (by decide), if_pos (by show (0 : Int) < (n : Int); omega)]
      show ((n : Int) - 0 - 1) / 1 + 1 = n
      omega
  refine call_list_range (I.ok.hd hc) ho ?_ hsz (by omega) fun h' tk acc' c' kp e hi => ?_
  · unfold Builtin.Range.small
    have hsz' : Builtin.Range.rangeSize 0 (n : Int) 1 = (n : Int) := hsz
    simp [Builtin.Range.rangeFitsLong, hsz']
    omega
  · refine ⟨.ref s.heap.objs.size, _, I.laid (t' := tk) kp (Nat.le_refl _) (show ObjOk X.prog X.w _ h' _ (.lst ((List.range n).map fun k : Nat => V.int (k : Int))) from ⟨?_, acc'.toList, c', ?_, e⟩), rfl, q _ (I.hok.fresh (Nat.le_refl _))⟩
    · simp; have := ln_size; unfold LN at this; omega
    · refine vals_of_get n _ _ (by rw [Array.length_toList]; exact hi.1) fun j u hj => ?_
      obtain ⟨t, rfl⟩ := hi.2 j u (by simpa using hj)
      simp
      exact ⟨t, rfl⟩
/-- list(range(n)) -/
theorem jf_lrng {p p2 p3 : Pos} (hc : X.calm = true) (hg : Gl X "list") (hm : X.mg "list" = none) (hg2 : Gl X "range") (hm2 : X.mg "range" = none) (ha : JB X κ W a ta) (hs : starEach [a] X.env = (false, eval a X.env) :: starEach [] X.env := by rfl)
    (hpl : (backTo p3 (starEach [] X.env)).any (·.1) = false := by rfl) (hs2 : starEach [.Call (.Name "range" p2) [a] [] p3] X.env = (false, eval (.Call (.Name "range" p2) [a] [] p3) X.env) :: starEach [] X.env := by rfl) (hpl2 : (backTo pos (starEach [] X.env)).any (·.1) = false := by rfl) :
    JF X κ W (.Call (.Name "list" p) [.Call (.Name "range" p2) [a] [] p3] [] pos) (f_lrng ta) :=
  PE.weak (pe_callTy (call_list_rng hc) hg hm (by decide +kernel) (pa_cons (pe_callTy call_range1v hg2 hm2 boot_range (pa_cons ha pa_nil hs) (by decide) (by decide) hs hpl) pa_nil hs2) (by decide) (by decide) hs2 hpl2) fun σ H Q ⟨g0, H0, g, ρ, P, x, L, q, hQ, hx⟩ => by
  refine ⟨g0, H0, g, ρ, _, x, L, q, fun g1 H1 v d e1 r1 q1 => ?_, hx⟩
  obtain ⟨j, rfl, q1, q2⟩ := nOf_int r1 q1
  refine ⟨j, rfl, fun p np => ?_⟩
  have e2 : Ext X.K g1 H1 ⟨upd g1.G p (.rng 0 j), g1.Dr⟩ (upd H1 p (.rng 0 j)) := Ext.frozenNew e1.wf np
  have hj : j = Int.ofNat j.toNat := by show j = (j.toNat : Int); omega
  refine ⟨p, j.toNat, rfl, by rw [← hj]; exact upd_same, by omega, fun l nl => ?_⟩
  have n := e2.wf.freeN nl
  have e12 := e1.trans L.wf e2
  refine hQ _ _ _ _ _ (e12.trans L.wf (Ext.fresh e2.wf nl)) (e12.noneOf L.wf nl) n.1 n.2 upd_same ?_ q2
  rw [upTo_data]
  have key : ∀ l : List Nat, RpL X.K (upd g1.G p (.rng 0 j)) (l.map fun k : Nat => V.int (k : Int)) (l.map fun k : Nat => PyData.int (k : Int)) := by
    intro l
    induction l with
    | nil => exact .nil
    | cons a l ih => exact .cons (.int _) ih
  exact key _
end
end PL

namespace PL
open PySem PySem.Spec PyProof.Rows L2
theorem RpL.rev {K : PySem.W.Frag} {G : Hp} : ∀ {vs : List V} {ds : List D}, RpL K G vs ds → RpL K G vs.reverse ds.reverse
  | _, _, .nil => .nil
  | _, _, .cons r t => by rw [List.reverse_cons, List.reverse_cons]; exact (RpL.rev t).append (.cons r .nil)
section
variable {X : Cx} {κ : Cls} {W : XK} {pos : Pos} {a : Expr} {ta : uE}
/-- x[::-1] of a list -/
theorem j_rev {k : Nat} {p1 p2 p3 : Pos} (ha : JB X κ W a ta) : JE X κ W (.Subscript a (.Slice none none (some (.UnaryOp .USub (.Constant (.int 1) k p1) p2)) p3) pos) (e_un o_rev ta) :=
  PE.weak (pe_revL ha) fun σ H Q ⟨g0, H0, g, ρ, P, x, L, q, hQ, hx⟩ => by
  refine ⟨g0, H0, g, ρ, _, x, L, q, fun g1 H1 v d e1 r1 q1 => ?_, hx⟩
  unfold o_rev at q1
  split at q1
  · obtain ⟨a, vs, rfl, s1, r1⟩ := r1.list e1.wf
    refine ⟨a, vs, rfl, SqL.of s1, fun p np => ?_⟩
    obtain ⟨e, r⟩ := frozen_lst e1.wf np r1.rev
    exact hQ _ _ _ _ (e1.trans L.wf e) r q1
  · exact q1.elim
end
end PL

/-! The pure terms of the program and the law k60, printed by gen.py. -/
namespace PL
open PySem
def k_ZERO : D := (.tuple [(.int 0), (.int 1)])
def k_ONE : D := (.tuple [(.int 1), (.int 1)])
def k_FEWEST_CLASSES : D := (.int 2)
def k_MOST_CLASSES : D := (.int 6)
def k_MOST_LOWER : D := (.int 1000)
abbrev c_law_take : Con := cTake
/-- law_gcd: 0 a 1 b -/
def T_law_gcd : uS := (s_seq (s_par 0 1 (e_un o_abs (b_v 0)) (e_un o_abs (b_v 1)))
    (s_seq (s_while (c_e (e_op o_gt (b_v 1) (e_c (.int 0)))) (s_par 0 1 (e_v 1) (e_op o_mod (e_un o_int (b_v 0)) (b_v 1))))
    (s_ret (e_v 0))))
def c_law_gcd : Con := conOf [false, false] 2 T_law_gcd
/-- law_ratio: 0 n 1 d 2 g -/
def T_law_ratio : uS := (s_seq (s_set 2 (e_call c_law_gcd (a_cons (e_v 0) (a_cons (e_v 1) a_nil))))
    (s_ret (e_if (c_e (e_op o_gt (b_v 1) (e_c (.int 0)))) (e_tup (a_cons (e_op o_fdiv (b_v 0) (b_v 2)) (a_cons (e_op o_fdiv (b_v 1) (b_v 2)) a_nil))) (e_tup (a_cons (e_op o_fdiv (e_un o_neg (b_v 0)) (b_v 2)) (a_cons (e_op o_fdiv (e_un o_neg (b_v 1)) (b_v 2)) a_nil))))))
def c_law_ratio : Con := conOf [false, false] 3 T_law_ratio
/-- law_shares: 0 draw 1 many 2 row 3 at 4 k 5 item -/
def T_law_shares : uS := (s_seq (s_own 2 (f_lc [4] (i_rng1 (b_v 1)) (g_n 4) c_yes (e_op o_ix (e_f (f_lst (a_cons (e_c (.int 0)) (a_cons (e_c (.int 0)) (a_cons (e_c (.int 1)) (a_cons (e_c (.int 1)) (a_cons (e_c (.int 2)) (a_cons (e_c (.int 3)) (a_cons (e_c (.int 5)) a_nil))))))))) (e_call c_law_take (a_draw 0 (a_cons (e_c (.int 7)) a_nil))))))
    (s_seq (s_set 3 (e_call c_law_take (a_draw 0 (a_cons (e_v 1) a_nil))))
    (s_seq (s_sub 2 (b_v 3) (e_op o_add (e_op o_ix (b_v 2) (b_v 3)) (e_c (.int 1))))
    (s_ret (e_un o_tuple (e_f (f_lc [5] (i_seq (b_v 2)) (g_n 5) c_yes (e_call c_law_ratio (a_cons (e_v 5) (a_cons (e_un o_sum (b_v 2)) a_nil))))))))))
def c_law_shares : Con := conOf [true, false] 6 T_law_shares
/-- law_plus: 0 a 1 b -/
def T_law_plus : uS := (s_ret (e_call c_law_ratio (a_cons (e_op o_add (e_op o_mul (e_op o_ix (b_v 0) (e_c (.int 0))) (e_op o_ix (b_v 1) (e_c (.int 1)))) (e_op o_mul (e_op o_ix (b_v 1) (e_c (.int 0))) (e_op o_ix (b_v 0) (e_c (.int 1))))) (a_cons (e_op o_mul (e_op o_ix (b_v 0) (e_c (.int 1))) (e_op o_ix (b_v 1) (e_c (.int 1)))) a_nil))))
def c_law_plus : Con := conOf [false, false] 2 T_law_plus
/-- law_ranked: 0 draw 1 many 2 left 3 rows 4 i 5 row 6 j 7 low -/
def T_law_ranked : uS := (s_seq (s_own 2 (f_op o_mul (e_f (f_lst (a_cons (e_c (.int 8)) a_nil))) (b_v 1)))
    (s_seq (s_own 3 (f_lst a_nil))
    (s_seq (s_for (i_rng1 (b_v 1)) (g_n 4) (s_seq (s_own 5 (f_lst a_nil))
    (s_seq (s_for (i_rng1 (b_v 1)) (g_n 6) (s_seq (s_set 7 (e_if (c_e (e_op o_eq (b_v 6) (e_c (.int 0)))) (e_c (.int 0)) (e_op o_ix (b_v 5) (e_op o_sub (b_v 6) (e_c (.int 1))))))
    (s_app 5 (e_if (c_e (e_op o_eq (b_v 6) (e_op o_sub (b_v 1) (e_c (.int 1))))) (e_c (.int 8)) (e_op o_max (b_v 7) (e_op o_sub (e_op o_ix (b_v 2) (b_v 6)) (e_call c_law_take (a_draw 0 (a_cons (e_c (.int 4)) a_nil)))))))))
    (s_seq (s_for (i_rngD (e_op o_sub (b_v 1) (e_c (.int 2))) (e_un o_neg (e_c (.int 1)))) (g_n 6) (s_sub 5 (b_v 6) (e_op3 o_min3 (e_op o_ix (b_v 5) (b_v 6)) (e_op o_ix (b_v 2) (b_v 6)) (e_op o_ix (b_v 5) (e_op o_add (b_v 6) (e_c (.int 1)))))))
    (s_seq (s_frz 5 (s_set 2 (e_v 5)))
    (s_app 3 (e_f (f_lc [6] (i_rng1 (b_v 1)) (g_n 6) c_yes (e_call c_law_ratio (a_cons (e_op o_sub (e_op o_ix (b_v 5) (b_v 6)) (e_if (c_e (e_op o_gt (b_v 6) (e_c (.int 0)))) (e_op o_ix (b_v 5) (e_op o_sub (b_v 6) (e_c (.int 1)))) (e_c (.int 0)))) (a_cons (e_c (.int 8)) a_nil)))))))))))
    (s_frz 3 (s_ret (e_v 3))))))
def c_law_ranked : Con := conOf [true, false] 8 T_law_ranked
/-- law_moves: 0 draw 1 most 2 many 3 kind 4 rows 5 i 6 row 7 at 8 base 9 part 10 j 11 item -/
def T_law_moves : uS := (s_seq (s_set 2 (e_op o_add (e_c (.int 2)) (e_call c_law_take (a_draw 0 (a_cons (e_op o_sub (b_v 1) (e_c (.int 1))) a_nil)))))
    (s_seq (s_set 3 (e_call c_law_take (a_draw 0 (a_cons (e_c (.int 5)) a_nil))))
    (s_seq (s_own 4 (f_lst a_nil))
    (s_seq (s_for (i_rng1 (b_v 2)) (g_n 5) (s_seq (s_own 6 (f_list (e_call c_law_shares (a_draw 0 (a_cons (e_v 2) a_nil)))))
    (s_seq (s_if (c_or (c_e (e_op o_eq (b_v 3) (e_c (.int 1)))) (c_and (c_e (e_op o_eq (b_v 3) (e_c (.int 2)))) (c_e (e_op o_eq (e_call c_law_take (a_draw 0 (a_cons (e_c (.int 2)) a_nil))) (e_c (.int 0)))))) (s_seq (s_set 7 (e_call c_law_take (a_draw 0 (a_cons (e_v 2) a_nil))))
    (s_own 6 (f_lc [10] (i_rng1 (b_v 2)) (g_n 10) c_yes (e_tup (a_cons (e_un o_int (e_op o_eq (b_v 10) (b_v 7))) (a_cons (e_c (.int 1)) a_nil)))))) s_nil)
    (s_seq (s_if (c_e (e_op o_eq (b_v 3) (e_c (.int 3)))) (s_seq (s_set 8 (e_op o_mul (e_op o_fdiv (b_v 5) (e_c (.int 2))) (e_c (.int 2))))
    (s_seq (s_own 6 (f_op o_mul (e_f (f_lst (a_cons (e_tup (a_cons (e_c (.int 0)) (a_cons (e_c (.int 1)) a_nil))) a_nil))) (b_v 2)))
    (s_seq (s_set 9 (e_call c_law_take (a_draw 0 (a_cons (e_c (.int 3)) a_nil))))
    (s_seq (s_sub 6 (b_v 8) (e_tup (a_cons (e_op o_sub (e_c (.int 2)) (b_v 9)) (a_cons (e_c (.int 2)) a_nil))))
    (s_seq (s_sub 6 (e_op o_min (e_op o_add (b_v 8) (e_c (.int 1))) (e_op o_sub (b_v 2) (e_c (.int 1)))) (e_call c_law_plus (a_cons (e_op o_ix (b_v 6) (e_op o_min (e_op o_add (b_v 8) (e_c (.int 1))) (e_op o_sub (b_v 2) (e_c (.int 1))))) (a_cons (e_tup (a_cons (e_v 9) (a_cons (e_c (.int 2)) a_nil))) a_nil))))
    (s_own 6 (f_lc [11] (i_seq (b_v 6)) (g_n 11) c_yes (e_call c_law_ratio (a_cons (e_op o_ix (b_v 11) (e_c (.int 0))) (a_cons (e_op o_ix (b_v 11) (e_c (.int 1))) a_nil)))))))))) s_nil)
    (s_frz 6 (s_app 4 (e_v 6)))))))
    (s_seq (s_if (c_e (e_op o_eq (b_v 3) (e_c (.int 4)))) (s_set 4 (e_call c_law_ranked (a_draw 0 (a_cons (e_v 2) a_nil)))) s_nil)
    (s_ret (e_un o_tuple (e_f (f_lc [6] (i_seq (b_v 4)) (g_n 6) c_yes (e_un o_tuple (b_v 6)))))))))))
def c_law_moves : Con := conOf [true, false] 12 T_law_moves
/-- law_mixed: 0 draw 1 many 2 times_v 3 rows 4 i 5 turn 6 left 7 j 8 item 9 row -/
def T_law_mixed : uS := (s_seq (s_unp (g_tup (g_cons (g_n 1) (g_cons (g_n 2) g_nil))) (e_tup (a_cons (e_op o_add (e_c (.int 2)) (e_call c_law_take (a_draw 0 (a_cons (e_c (.int 5)) a_nil)))) (a_cons (e_op o_add (e_c (.int 1)) (e_call c_law_take (a_draw 0 (a_cons (e_c (.int 4)) a_nil)))) a_nil))))
    (s_seq (s_nst 3 [4] (i_rng1 (b_v 1)) (g_n 4) c_yes (f_op o_mul (e_f (f_lst (a_cons (e_c (.int 0)) a_nil))) (b_v 1)))
    (s_seq (s_for (i_rng1 (b_v 2)) (g_n 5) (s_seq (s_own 6 (f_lrng (b_v 1)))
    (s_for (i_rng1 (b_v 1)) (g_n 4) (s_seq (s_popS 6 7 (e_call c_law_take (a_draw 0 (a_cons (e_un o_len (b_v 6)) a_nil))))
    (s_sub2 3 (b_v 4) (b_v 7) (e_op o_add (e_op o_ix (b_nix 3 (b_v 4)) (b_v 7)) (e_c (.int 1))))))))
    (s_frz 3 (s_ret (e_un o_tuple (e_f (f_lc [9] (i_seq (b_v 3)) (g_n 9) c_yes (e_un o_tuple (e_f (f_lc [8] (i_seq (b_v 9)) (g_n 8) c_yes (e_call c_law_ratio (a_cons (e_v 8) (a_cons (e_v 2) a_nil))))))))))))))
def c_law_mixed : Con := conOf [true] 10 T_law_mixed
/-- is_whole: 0 value -/
def T_is_whole : uS := (s_ret (e_and (e_un (o_isin .tInt) (b_v 0)) (e_not (e_un (o_isin .tBool) (b_v 0)))))
def c_is_whole : Con := conOf [false] 1 T_is_whole
/-- common: 0 a 1 b -/
def T_common : uS := (s_seq (s_par 0 1 (e_un o_abs (b_v 0)) (e_un o_abs (b_v 1)))
    (s_seq (s_while (c_e (e_op o_ne (b_v 1) (e_c (.int 0)))) (s_par 0 1 (e_v 1) (e_op o_mod (b_v 0) (b_v 1))))
    (s_ret (e_v 0))))
def c_common : Con := conOf [false, false] 2 T_common
/-- is_ratio: 0 value -/
def T_is_ratio : uS := (s_seq (s_if (c_or (c_not (c_e (e_un (o_isin .tTuple) (b_v 0)))) (c_or (c_e (e_op o_ne (e_un o_len (b_v 0)) (e_c (.int 2)))) (c_or (c_not (c_e (e_call c_is_whole (a_cons (e_op o_ix (b_v 0) (e_c (.int 0))) a_nil)))) (c_not (c_e (e_call c_is_whole (a_cons (e_op o_ix (b_v 0) (e_c (.int 1))) a_nil))))))) (s_ret (e_c (.bool false))) s_nil)
    (s_ret (e_and (e_op o_gt (e_op o_ix (b_v 0) (e_c (.int 1))) (e_c (.int 0))) (e_op o_eq (e_call c_common (a_cons (e_op o_ix (b_v 0) (e_c (.int 0))) (a_cons (e_op o_ix (b_v 0) (e_c (.int 1))) a_nil))) (e_c (.int 1))))))
def c_is_ratio : Con := conOf [false] 1 T_is_ratio
/-- lowest: 0 n 1 d 2 g -/
def T_lowest : uS := (s_seq (s_set 2 (e_call c_common (a_cons (e_v 0) (a_cons (e_v 1) a_nil))))
    (s_seq (s_if (c_e (e_op o_lt (b_v 1) (e_c (.int 0)))) (s_set 2 (e_un o_neg (b_v 2))) s_nil)
    (s_ret (e_tup (a_cons (e_op o_fdiv (b_v 0) (b_v 2)) (a_cons (e_op o_fdiv (b_v 1) (b_v 2)) a_nil))))))
def c_lowest : Con := conOf [false, false] 3 T_lowest
/-- plus: 0 a 1 b -/
def T_plus : uS := (s_ret (e_call c_lowest (a_cons (e_op o_add (e_op o_mul (e_op o_ix (b_v 0) (e_c (.int 0))) (e_op o_ix (b_v 1) (e_c (.int 1)))) (e_op o_mul (e_op o_ix (b_v 1) (e_c (.int 0))) (e_op o_ix (b_v 0) (e_c (.int 1))))) (a_cons (e_op o_mul (e_op o_ix (b_v 0) (e_c (.int 1))) (e_op o_ix (b_v 1) (e_c (.int 1)))) a_nil))))
def c_plus : Con := conOf [false, false] 2 T_plus
/-- total: 0 items 1 found 2 item -/
def T_total : uS := (s_seq (s_set 1 (e_c k_ZERO))
    (s_seq (s_for (i_seq (e_v 0)) (g_n 2) (s_if (c_e (e_op o_ne (e_op o_ix (b_v 2) (e_c (.int 0))) (e_c (.int 0)))) (s_set 1 (e_call c_plus (a_cons (e_v 1) (a_cons (e_v 2) a_nil)))) s_nil))
    (s_ret (e_v 1))))
def c_total : Con := conOf [false] 3 T_total
/-- fits_shares: 0 value 1 many 2 item -/
def T_fits_shares : uS := (s_seq (s_if (c_or (c_not (c_e (e_un (o_isin .tTuple) (b_v 0)))) (c_e (e_op o_ne (e_un o_len (b_v 0)) (b_v 1)))) (s_ret (e_c (.bool false))) s_nil)
    (s_ret (e_and (e_un o_all (e_f (f_lc [2] (i_seq (b_v 0)) (g_n 2) c_yes (e_and (e_call c_is_ratio (a_cons (e_v 2) a_nil)) (e_op o_ge (e_op o_ix (b_v 2) (e_c (.int 0))) (e_c (.int 0))))))) (e_op o_eq (e_call c_total (a_cons (e_v 0) a_nil)) (e_c k_ONE)))))
def c_fits_shares : Con := conOf [false, false] 3 T_fits_shares
/-- is_moves: 0 value 1 item 2 row -/
def T_is_moves : uS := (s_seq (s_if (c_or (c_not (c_e (e_un (o_isin .tTuple) (b_v 0)))) (c_not (c_e (e_ch o_le o_le (e_c k_FEWEST_CLASSES) (e_un o_len (b_v 0)) (e_c k_MOST_CLASSES))))) (s_ret (e_c (.bool false))) s_nil)
    (s_ret (e_un o_all (e_f (f_lc [2] (i_seq (b_v 0)) (g_n 2) c_yes (e_and (e_call c_fits_shares (a_cons (e_v 2) (a_cons (e_un o_len (b_v 0)) a_nil))) (e_un o_all (e_f (f_lc [1] (i_seq (b_v 2)) (g_n 1) c_yes (e_op o_le (e_op o_ix (b_v 1) (e_c (.int 1))) (e_c k_MOST_LOWER)))))))))))
def c_is_moves : Con := conOf [false] 3 T_is_moves
/-- law_sum: 0 items 1 found 2 item -/
def T_law_sum : uS := (s_seq (s_set 1 (e_tup (a_cons (e_c (.int 0)) (a_cons (e_c (.int 1)) a_nil))))
    (s_seq (s_for (i_seq (e_v 0)) (g_n 2) (s_set 1 (e_call c_law_plus (a_cons (e_v 1) (a_cons (e_v 2) a_nil)))))
    (s_ret (e_v 1))))
def c_law_sum : Con := conOf [false] 3 T_law_sum
/-- check_moves: 0 value -/
def T_check_moves : uS := (s_if (c_not (c_e (e_call c_is_moves (a_cons (e_v 0) a_nil)))) (s_raise .malformed) s_nil)
def c_check_moves : Con := conOf [false] 1 T_check_moves
/-- mixing_objection: 0 moves 1 many 2 row 3 j -/
def T_mixing_objection : uS := (s_seq (s_ex (e_call c_check_moves (a_cons (e_v 0) a_nil)))
    (s_seq (s_set 1 (e_un o_len (b_v 0)))
    (s_seq (s_if (c_e (e_un o_all (e_f (f_lc [3] (i_rng1 (b_v 1)) (g_n 3) c_yes (e_op o_eq (e_call c_total (a_cons (e_f (f_lc [2] (i_seq (b_v 0)) (g_n 2) c_yes (e_op o_ix (b_v 2) (b_v 3)))) a_nil)) (e_c k_ONE)))))) (s_ret (e_c .none)) s_nil)
    (s_ret (e_op o_mul (e_tup (a_cons (e_call c_lowest (a_cons (e_c (.int 1)) (a_cons (e_v 1) a_nil))) a_nil)) (b_v 1))))))
def c_mixing_objection : Con := conOf [false] 4 T_mixing_objection
/-- law_is_fraction: 0 value 1 item -/
def T_law_is_fraction : uS := (s_seq (s_if (c_or (c_not (c_e (e_un (o_isin .tTuple) (b_v 0)))) (c_e (e_op o_ne (e_un o_len (b_v 0)) (e_c (.int 2))))) (s_ret (e_c (.bool false))) s_nil)
    (s_seq (s_if (c_not (c_e (e_un o_all (e_f (f_lc [1] (i_seq (b_v 0)) (g_n 1) c_yes (e_and (e_un (o_isin .tInt) (b_v 1)) (e_not (e_un (o_isin .tBool) (b_v 1))))))))) (s_ret (e_c (.bool false))) s_nil)
    (s_ret (e_and (e_op o_gt (e_op o_ix (b_v 0) (e_c (.int 1))) (e_c (.int 0))) (e_op o_eq (e_call c_law_ratio (a_cons (e_op o_ix (b_v 0) (e_c (.int 0))) (a_cons (e_op o_ix (b_v 0) (e_c (.int 1))) a_nil))) (b_v 0))))))
def c_law_is_fraction : Con := conOf [false] 2 T_law_is_fraction
/-- law_less: 0 a 1 b -/
def T_law_less : uS := (s_ret (e_op o_lt (e_op o_mul (e_op o_ix (b_v 0) (e_c (.int 0))) (e_op o_ix (b_v 1) (e_c (.int 1)))) (e_op o_mul (e_op o_ix (b_v 1) (e_c (.int 0))) (e_op o_ix (b_v 0) (e_c (.int 1))))))
def c_law_less : Con := conOf [false, false] 2 T_law_less
/-- law_in_size: 0 row 1 found 2 k 3 i -/
def T_law_in_size : uS := (s_seq (s_own 1 (f_list (b_v 0)))
    (s_seq (s_for (i_rng1 (e_un o_len (b_v 1))) (g_n 2) (s_for (i_rng1 (e_op o_sub (e_un o_len (b_v 1)) (e_c (.int 1)))) (g_n 3) (s_if (c_e (e_call c_law_less (a_cons (e_op o_ix (b_v 1) (e_op o_add (b_v 3) (e_c (.int 1)))) (a_cons (e_op o_ix (b_v 1) (b_v 3)) a_nil)))) (s_swp 1 1 (b_v 3) (e_op o_add (b_v 3) (e_c (.int 1))) (e_tup (a_cons (e_op o_ix (b_v 1) (e_op o_add (b_v 3) (e_c (.int 1)))) (a_cons (e_op o_ix (b_v 1) (b_v 3)) a_nil)))) s_nil)))
    (s_frz 1 (s_ret (e_v 1)))))
def c_law_in_size : Con := conOf [false] 4 T_law_in_size
/-- law_as_even: 0 one 1 two 2 x 3 y 4 k -/
def T_law_as_even : uS := (s_seq (s_unp (g_tup (g_cons (g_n 2) (g_cons (g_n 3) g_nil))) (e_tup (a_cons (e_call c_law_in_size (a_cons (e_v 0) a_nil)) (a_cons (e_call c_law_in_size (a_cons (e_v 1) a_nil)) a_nil))))
    (s_ret (e_un o_all (e_f (f_lc [4] (i_rng2 (e_c (.int 1)) (e_un o_len (b_v 2))) (g_n 4) c_yes (e_not (e_call c_law_less (a_cons (e_call c_law_sum (a_cons (e_sl (b_v 2) p_none (p_some (b_v 4))) a_nil)) (a_cons (e_call c_law_sum (a_cons (e_sl (b_v 3) p_none (p_some (b_v 4))) a_nil)) a_nil)))))))))
def c_law_as_even : Con := conOf [false, false] 5 T_law_as_even
/-- law_times: 0 a 1 b -/
def T_law_times : uS := (s_ret (e_call c_law_ratio (a_cons (e_op o_mul (e_op o_ix (b_v 0) (e_c (.int 0))) (e_op o_ix (b_v 1) (e_c (.int 0)))) (a_cons (e_op o_mul (e_op o_ix (b_v 0) (e_c (.int 1))) (e_op o_ix (b_v 1) (e_c (.int 1)))) a_nil))))
def c_law_times : Con := conOf [false, false] 2 T_law_times
/-- law_after: 0 moves 1 shares 2 many 3 i 4 j -/
def T_law_after : uS := (s_seq (s_set 2 (e_un o_len (b_v 0)))
    (s_ret (e_un o_tuple (e_f (f_lc [4] (i_rng1 (b_v 2)) (g_n 4) c_yes (e_call c_law_sum (a_cons (e_f (f_lc [3] (i_rng1 (b_v 2)) (g_n 3) c_yes (e_call c_law_times (a_cons (e_op o_ix (b_v 1) (b_v 3)) (a_cons (e_op o_ix (e_op o_ix (b_v 0) (b_v 3)) (b_v 4)) a_nil))))) a_nil)))))))
def c_law_after : Con := conOf [false, false] 5 T_law_after
/-- law_is_objection: 0 moves 1 value 2 item -/
def T_law_is_objection : uS := (s_seq (s_if (c_or (c_not (c_e (e_un (o_isin .tTuple) (b_v 1)))) (c_or (c_e (e_op o_ne (e_un o_len (b_v 1)) (e_un o_len (b_v 0)))) (c_not (c_e (e_un o_all (e_f (f_lc [2] (i_seq (b_v 1)) (g_n 2) c_yes (e_call c_law_is_fraction (a_cons (e_v 2) a_nil))))))))) (s_ret (e_c (.bool false))) s_nil)
    (s_seq (s_if (c_or (c_e (e_un o_any (e_f (f_lc [2] (i_seq (b_v 1)) (g_n 2) c_yes (e_op o_lt (e_op o_ix (b_v 2) (e_c (.int 0))) (e_c (.int 0))))))) (c_e (e_op o_ne (e_call c_law_sum (a_cons (e_v 1) a_nil)) (e_tup (a_cons (e_c (.int 1)) (a_cons (e_c (.int 1)) a_nil)))))) (s_ret (e_c (.bool false))) s_nil)
    (s_ret (e_not (e_call c_law_as_even (a_cons (e_call c_law_after (a_cons (e_v 0) (a_cons (e_v 1) a_nil))) (a_cons (e_v 1) a_nil)))))))
def c_law_is_objection : Con := conOf [false, false] 3 T_law_is_objection
/-- law_says: 0 value 1 due -/
def T_law_says : uS := (s_ret (e_and (e_un (o_isin .tBool) (b_v 0)) (e_op o_eq (b_v 0) (b_v 1))))
def c_law_says : Con := conOf [false, false] 2 T_law_says
/-- below: 0 a 1 b -/
def T_below : uS := (s_ret (e_op o_lt (e_op o_mul (e_op o_ix (b_v 0) (e_c (.int 0))) (e_op o_ix (b_v 1) (e_c (.int 1)))) (e_op o_mul (e_op o_ix (b_v 1) (e_c (.int 0))) (e_op o_ix (b_v 0) (e_c (.int 1))))))
def c_below : Con := conOf [false, false] 2 T_below
/-- in_size: 0 row 1 found 2 item 3 other -/
def T_in_size : uS := (s_seq (s_own 1 (f_lst a_nil))
    (s_seq (s_for (i_seq (e_v 0)) (g_n 2) (s_insert 1 (e_un o_len (e_f (f_lc [3] (i_seq (b_v 1)) (g_n 3) (c_e (e_call c_below (a_cons (e_v 3) (a_cons (e_v 2) a_nil)))) (e_v 3)))) (e_v 2)))
    (s_frz 1 (s_ret (e_v 1)))))
def c_in_size : Con := conOf [false] 4 T_in_size
/-- is_as_even: 0 one 1 two 2 x 3 y 4 k -/
def T_is_as_even : uS := (s_seq (s_unp (g_tup (g_cons (g_n 2) (g_cons (g_n 3) g_nil))) (e_tup (a_cons (e_call c_in_size (a_cons (e_v 0) a_nil)) (a_cons (e_call c_in_size (a_cons (e_v 1) a_nil)) a_nil))))
    (s_ret (e_not (e_un o_any (e_f (f_lc [4] (i_rng2 (e_c (.int 1)) (e_un o_len (b_v 2))) (g_n 4) c_yes (e_call c_below (a_cons (e_call c_total (a_cons (e_sl (b_v 2) p_none (p_some (b_v 4))) a_nil)) (a_cons (e_call c_total (a_cons (e_sl (b_v 3) p_none (p_some (b_v 4))) a_nil)) a_nil)))))))))
def c_is_as_even : Con := conOf [false, false] 5 T_is_as_even
/-- times: 0 a 1 b -/
def T_times : uS := (s_ret (e_call c_lowest (a_cons (e_op o_mul (e_op o_ix (b_v 0) (e_c (.int 0))) (e_op o_ix (b_v 1) (e_c (.int 0)))) (a_cons (e_op o_mul (e_op o_ix (b_v 0) (e_c (.int 1))) (e_op o_ix (b_v 1) (e_c (.int 1)))) a_nil))))
def c_times : Con := conOf [false, false] 2 T_times
/-- stepped: 0 moves 1 shares 2 many 3 i 4 j -/
def T_stepped : uS := (s_seq (s_rng 2 (e_un o_len (b_v 0)))
    (s_ret (e_un o_tuple (e_f (f_lc [4] (i_rngV 2) (g_n 4) c_yes (e_call c_total (a_cons (e_f (f_lc [3] (i_rngV 2) (g_n 3) c_yes (e_call c_times (a_cons (e_op o_ix (b_v 1) (b_v 3)) (a_cons (e_op o_ix (e_op o_ix (b_v 0) (b_v 3)) (b_v 4)) a_nil))))) a_nil)))))))
def c_stepped : Con := conOf [false, false] 5 T_stepped
/-- takes_mixing_objection: 0 moves 1 value -/
def T_takes_mixing_objection : uS := (s_seq (s_ex (e_call c_check_moves (a_cons (e_v 0) a_nil)))
    (s_ret (e_and (e_call c_fits_shares (a_cons (e_v 1) (a_cons (e_un o_len (b_v 0)) a_nil))) (e_not (e_call c_is_as_even (a_cons (e_call c_stepped (a_cons (e_v 0) (a_cons (e_v 1) a_nil))) (a_cons (e_v 1) a_nil)))))))
def c_takes_mixing_objection : Con := conOf [false, false] 2 T_takes_mixing_objection
/-- law_odd_moves: 0 draw 1 moves 2 many 3 h 4 odd 5 row -/
def T_law_odd_moves : uS := (s_seq (s_set 2 (e_un o_len (b_v 1)))
    (s_seq (s_set 3 (e_tup (a_cons (e_c (.int 1)) (a_cons (e_c (.int 2)) a_nil))))
    (s_seq (s_own 4 (f_lst (a_cons (e_c .none) (a_cons (e_tup a_nil) (a_cons (e_f (f_lc [5] (i_seq (b_v 1)) (g_n 5) c_yes (e_f (f_list (b_v 5))))) (a_cons (e_f (f_list (b_v 1))) (a_cons (e_sl (b_v 1) (p_some (e_c (.int 1))) p_none) (a_cons (e_op o_add (b_v 1) (e_sl (b_v 1) p_none (p_some (e_c (.int 1))))) (a_cons (e_tup (a_cons (e_tup (a_cons (e_c (.int 1)) (a_cons (e_c (.int 1)) a_nil))) a_nil)) (a_cons (e_tup (a_cons (e_tup (a_cons (e_tup (a_cons (e_c (.int 1)) (a_cons (e_c (.int 1)) a_nil))) a_nil)) a_nil)) (a_cons (e_tup (a_cons (e_tup (a_cons (e_v 3) (a_cons (e_v 3) a_nil))) (a_cons (e_tup (a_cons (e_v 3) (a_cons (e_tup (a_cons (e_c (.int 1)) (a_cons (e_c (.int 3)) a_nil))) a_nil))) a_nil))) a_nil)))))))))))
    (s_seq (s_own 4 (f_op o_add (b_v 4) (e_f (f_lst (a_cons (e_tup (a_cons (e_tup (a_cons (e_v 3) (a_cons (e_v 3) a_nil))) (a_cons (e_tup (a_cons (e_tup (a_cons (e_c (.int 2)) (a_cons (e_c (.int 4)) a_nil))) (a_cons (e_v 3) a_nil))) a_nil))) (a_cons (e_tup (a_cons (e_tup (a_cons (e_v 3) (a_cons (e_v 3) a_nil))) (a_cons (e_tup (a_cons (e_tup (a_cons (e_c (.int 3)) (a_cons (e_c (.int 2)) a_nil))) (a_cons (e_tup (a_cons (e_un o_neg (e_c (.int 1))) (a_cons (e_c (.int 2)) a_nil))) a_nil))) a_nil))) (a_cons (e_tup (a_cons (e_tup (a_cons (e_v 3) (a_cons (e_v 3) a_nil))) (a_cons (e_f (f_lst (a_cons (e_v 3) (a_cons (e_v 3) a_nil)))) a_nil))) (a_cons (e_tup (a_cons (e_tup (a_cons (e_v 3) (a_cons (e_v 3) a_nil))) (a_cons (e_tup (a_cons (e_v 3) (a_cons (e_v 3) (a_cons (e_tup (a_cons (e_c (.int 0)) (a_cons (e_c (.int 1)) a_nil))) a_nil)))) a_nil))) (a_cons (e_tup (a_cons (e_tup (a_cons (e_v 3) (a_cons (e_v 3) a_nil))) (a_cons (e_tup (a_cons (e_tup (a_cons (e_c (.bool true)) (a_cons (e_c (.int 2)) a_nil))) (a_cons (e_v 3) a_nil))) a_nil))) (a_cons (e_tup (a_cons (e_tup (a_cons (e_v 3) (a_cons (e_v 3) a_nil))) (a_cons (e_c (.int 1)) a_nil))) a_nil))))))))))
    (s_seq (s_own 4 (f_op o_add (b_v 4) (e_f (f_lst (a_cons (e_tup (a_cons (e_tup (a_cons (e_v 3) (a_cons (e_v 3) a_nil))) (a_cons (e_tup (a_cons (e_tup (a_cons (e_c (.int 1)) (a_cons (e_c (.int 1001)) a_nil))) (a_cons (e_tup (a_cons (e_c (.int 1000)) (a_cons (e_c (.int 1001)) a_nil))) a_nil))) a_nil))) (a_cons (e_op o_add (e_tup (a_cons (e_sl (e_op o_ix (b_v 1) (e_c (.int 0))) p_none (p_some (e_op o_sub (b_v 2) (e_c (.int 1))))) a_nil)) (e_sl (b_v 1) (p_some (e_c (.int 1))) p_none)) (a_cons (e_op o_mul (e_tup (a_cons (e_op o_add (e_tup (a_cons (e_tup (a_cons (e_c (.int 1)) (a_cons (e_c (.int 1)) a_nil))) a_nil)) (e_op o_mul (e_tup (a_cons (e_tup (a_cons (e_c (.int 0)) (a_cons (e_c (.int 1)) a_nil))) a_nil)) (e_c (.int 6)))) a_nil)) (e_c (.int 7))) a_nil)))))))
    (s_ret (e_op o_ix (b_v 4) (e_call c_law_take (a_draw 0 (a_cons (e_un o_len (b_v 4)) a_nil))))))))))
def c_law_odd_moves : Con := conOf [true, false] 6 T_law_odd_moves
/-- law_told: 0 which 1 moves -/
def T_law_told : uS := (s_tryM 2 (s_ret (e_if (c_e (e_op o_eq (b_v 0) (e_c (.int 0)))) (e_call c_mixing_objection (a_cons (e_v 1) a_nil)) (e_call c_takes_mixing_objection (a_cons (e_v 1) (a_cons (e_c .none) a_nil))))) (s_ret (e_c (.str "<malformed>"))))
def c_law_told : Con := conOf [false, false] 2 T_law_told
/-- law: 0 script 1 draw 2 turn 3 kind 4 moves 5 many 6 at 7 mixes 8 told 9 values 10 step 11 value 12 due 13 odd 14 row 15 j 16 which -/
def T_law : uS := (s_seq (s_draw 1 0)
    (s_seq (s_for (i_rng1 (e_c (.int 3))) (g_n 2) (s_seq (s_set 3 (e_call c_law_take (a_draw 1 (a_cons (e_c (.int 3)) a_nil))))
    (s_seq (s_set 4 (e_if (c_e (e_op o_eq (b_v 3) (e_c (.int 0)))) (e_call c_law_moves (a_draw 1 (a_cons (e_c (.int 6)) a_nil))) (e_call c_law_mixed (a_draw 1 a_nil))))
    (s_seq (s_set 5 (e_un o_len (b_v 4)))
    (s_seq (s_if (c_e (e_op o_eq (b_v 3) (e_c (.int 2)))) (s_seq (s_set 6 (e_call c_law_take (a_draw 1 (a_cons (e_v 5) a_nil))))
    (s_set 4 (e_op o_add (e_op o_add (e_sl (b_v 4) p_none (p_some (b_v 6))) (e_tup (a_cons (e_call c_law_shares (a_draw 1 (a_cons (e_v 5) a_nil))) a_nil))) (e_sl (b_v 4) (p_some (e_op o_add (b_v 6) (e_c (.int 1)))) p_none)))) s_nil)
    (s_seq (s_if (c_not (c_e (e_call c_is_moves (a_cons (e_v 4) a_nil)))) (s_ret (e_c (.bool false))) s_nil)
    (s_seq (s_set 7 (e_un o_all (e_f (f_lc [15] (i_rng1 (b_v 5)) (g_n 15) c_yes (e_op o_eq (e_call c_law_sum (a_cons (e_f (f_lc [14] (i_seq (b_v 4)) (g_n 14) c_yes (e_op o_ix (b_v 14) (b_v 15)))) a_nil)) (e_tup (a_cons (e_c (.int 1)) (a_cons (e_c (.int 1)) a_nil))))))))
    (s_seq (s_set 8 (e_call c_mixing_objection (a_cons (e_v 4) a_nil)))
    (s_seq (s_if (c_or (c_e (e_op o_ne (e_un o_isN (b_v 8)) (b_v 7))) (c_and (c_e (e_un o_notN (b_v 8))) (c_not (c_e (e_call c_law_is_objection (a_cons (e_v 4) (a_cons (e_v 8) a_nil))))))) (s_ret (e_c (.bool false))) s_nil)
    (s_seq (s_own 9 (f_lst (a_cons (e_v 8) (a_cons (e_c .none) (a_cons (e_tup a_nil) (a_cons (e_v 4) (a_cons (e_op o_ix (b_v 4) (e_c (.int 0))) (a_cons (e_f (f_list (e_op o_ix (b_v 4) (e_c (.int 0))))) (a_cons (e_op o_mul (e_tup (a_cons (e_tup (a_cons (e_c (.int 1)) (a_cons (e_v 5) a_nil))) a_nil)) (b_v 5)) (a_cons (e_op o_mul (e_tup (a_cons (e_tup (a_cons (e_c (.int 1)) (a_cons (e_c (.int 2)) a_nil))) a_nil)) (b_v 5)) (a_cons (e_op o_mul (e_tup (a_cons (e_tup (a_cons (e_c (.int 1)) (a_cons (e_c (.int 2)) a_nil))) a_nil)) (e_c (.int 2))) (a_cons (e_op o_add (e_tup (a_cons (e_tup (a_cons (e_c (.int 2)) (a_cons (e_c (.int 1)) a_nil))) (a_cons (e_tup (a_cons (e_un o_neg (e_c (.int 1))) (a_cons (e_c (.int 1)) a_nil))) a_nil))) (e_op o_mul (e_tup (a_cons (e_tup (a_cons (e_c (.int 0)) (a_cons (e_c (.int 1)) a_nil))) a_nil)) (e_op o_sub (b_v 5) (e_c (.int 2))))) (a_cons (e_op o_mul (e_tup (a_cons (e_c (.int 1)) a_nil)) (b_v 5)) a_nil)))))))))))))
    (s_seq (s_for (i_rng1 (e_c (.int 4))) (g_n 10) (s_app 9 (e_call c_law_shares (a_draw 1 (a_cons (e_v 5) a_nil)))))
    (s_seq (s_app 9 (e_call c_law_shares (a_draw 1 (a_cons (e_op o_add (e_op o_mod (e_un o_int (b_v 5)) (e_c (.int 5))) (e_c (.int 2))) a_nil))))
    (s_frz 9 (s_for (i_seq (e_v 9)) (g_n 11) (s_seq (s_set 12 (e_call c_law_is_objection (a_cons (e_v 4) (a_cons (e_v 11) a_nil))))
    (s_if (c_or (c_not (c_e (e_call c_law_says (a_cons (e_call c_takes_mixing_objection (a_cons (e_v 4) (a_cons (e_v 11) a_nil))) (a_cons (e_v 12) a_nil))))) (c_and (c_e (e_v 7)) (c_e (e_v 12)))) (s_ret (e_c (.bool false))) s_nil))))))))))))))))
    (s_seq (s_set 13 (e_call c_law_odd_moves (a_draw 1 (a_cons (e_v 4) a_nil))))
    (s_ret (e_op o_eq (e_f (f_lc [16] (i_rng1 (e_c (.int 2))) (g_n 16) c_yes (e_call c_law_told (a_cons (e_v 16) (a_cons (e_v 13) a_nil))))) (e_op o_mul (e_f (f_lst (a_cons (e_c (.str "<malformed>")) a_nil))) (e_c (.int 2))))))))
end PL

namespace PL.M
open PySem
theorem log2_lt_of {n k : Nat} (hk : 0 < k) (h : n < 2 ^ k) : n.log2 < k := by
  by_cases h0 : n = 0
  · subst h0; simpa using hk
  · exact (Nat.log2_lt h0).mpr h
theorem mulOk_of {i j : Int} {a b : Nat} (ha : i.natAbs < 2 ^ a) (hb : j.natAbs < 2 ^ b) (h : a + b ≤ 900000) : mulOk i j := by
  have h1 := log2_lt_of (Nat.succ_pos a) (Nat.lt_trans ha (Nat.pow_lt_pow_right (by decide) (Nat.lt_succ_self a)))
  have h2 := log2_lt_of (Nat.succ_pos b) (Nat.lt_trans hb (Nat.pow_lt_pow_right (by decide) (Nat.lt_succ_self b)))
  unfold mulOk
  omega
theorem divOk_of {j : Int} {b : Nat} (h0 : j ≠ 0) (hb : j.natAbs < 2 ^ b) (h : b ≤ 8999) : divOk j := by
  have h1 := log2_lt_of (Nat.succ_pos b) (Nat.lt_trans hb (Nat.pow_lt_pow_right (by decide) (Nat.lt_succ_self b)))
  exact ⟨h0, by omega⟩
theorem two_le {a b : Nat} (h : a ≤ b) : 2 ^ a ≤ 2 ^ b := Nat.pow_le_pow_right (by decide) h
theorem abs_mul_lt {i j : Int} {a b : Nat} (ha : i.natAbs < 2 ^ a) (hb : j.natAbs < 2 ^ b) : (i * j).natAbs < 2 ^ (a + b) := by
  rw [Int.natAbs_mul, Nat.pow_add]
  exact Nat.mul_lt_mul'' ha hb
theorem abs_add_lt {i j : Int} {a : Nat} (ha : i.natAbs < 2 ^ a) (hb : j.natAbs < 2 ^ a) : (i + j).natAbs < 2 ^ (a + 1) := by
  have := Int.natAbs_add_le i j
  rw [Nat.pow_succ]
  omega
/-- numerator and denominator below 2 ^ B -/
def sz (B : Nat) (q : Rat) : Prop := q.num.natAbs < 2 ^ B ∧ q.den < 2 ^ B
theorem sz.mono {A B : Nat} {q : Rat} (h : sz A q) (k : A ≤ B) : sz B q := ⟨Nat.lt_of_lt_of_le h.1 (two_le k), Nat.lt_of_lt_of_le h.2 (two_le k)⟩
theorem divInt_num_le (n d : Int) : (Rat.divInt n d).num.natAbs ≤ n.natAbs := by
  rw [Rat.num_divInt]
  refine Nat.le_trans (Int.natAbs_ediv_le_natAbs _ _) ?_
  rw [Int.natAbs_mul]
  rcases Int.lt_trichotomy d 0 with h | h | h
  · rw [Int.sign_eq_neg_one_of_neg h]; simp
  · subst h; simp
  · rw [Int.sign_eq_one_of_pos h]; simp
theorem divInt_den_le (n d : Int) (hd : d ≠ 0) : (Rat.divInt n d).den ≤ d.natAbs := by
  rw [Rat.den_divInt, if_neg hd]
  exact Nat.div_le_self _ _
theorem add_eq_divInt (a b : Rat) : a + b = Rat.divInt (a.num * b.den + b.num * a.den) (a.den * b.den : Nat) := by
  rw [Rat.add_def']; rfl
theorem mul_eq_divInt (a b : Rat) : a * b = Rat.divInt (a.num * b.num) (a.den * b.den : Nat) := by
  rw [Rat.mul_def']; rfl
theorem sz_add {A B : Nat} {a b : Rat} (ha : sz A a) (hb : sz B b) : sz (A + B + 1) (a + b) := by
  rw [add_eq_divInt]
  have hn : a.den * b.den < 2 ^ (A + B) := by rw [Nat.pow_add]; exact Nat.mul_lt_mul'' ha.2 hb.2
  refine ⟨Nat.lt_of_le_of_lt (divInt_num_le _ _) ?_, Nat.lt_of_le_of_lt (divInt_den_le _ _ ?_) ?_⟩
  · refine abs_add_lt (abs_mul_lt ha.1 (by simpa using hb.2)) ?_
    rw [Nat.add_comm A B]
    exact abs_mul_lt hb.1 (by simpa using ha.2)
  · have := a.den_pos; have := b.den_pos
    have := Nat.mul_pos a.den_pos b.den_pos
    omega
  · rw [Int.natAbs_natCast]
    exact Nat.lt_of_lt_of_le hn (two_le (Nat.le_succ _))
theorem sz_mul {A B : Nat} {a b : Rat} (ha : sz A a) (hb : sz B b) : sz (A + B) (a * b) := by
  rw [mul_eq_divInt]
  have hn : a.den * b.den < 2 ^ (A + B) := by rw [Nat.pow_add]; exact Nat.mul_lt_mul'' ha.2 hb.2
  refine ⟨Nat.lt_of_le_of_lt (divInt_num_le _ _) (abs_mul_lt ha.1 hb.1), Nat.lt_of_le_of_lt (divInt_den_le _ _ ?_) ?_⟩
  · have := Nat.mul_pos a.den_pos b.den_pos
    omega
  · rw [Int.natAbs_natCast]
    exact hn
theorem sz_neg {A : Nat} {a : Rat} (ha : sz A a) : sz A (-a) := by
  refine ⟨?_, ?_⟩
  · rw [Rat.neg_num, Int.natAbs_neg]; exact ha.1
  · rw [Rat.neg_den]; exact ha.2
theorem sz_zero : sz 1 0 := ⟨by decide, by decide⟩
theorem sz_one : sz 1 1 := ⟨by decide, by decide⟩

/-- a fraction as data -/
def rD (q : Rat) : D := .tuple [.int q.num, .int q.den]
theorem divInt_rD (n d : Int) (hd : d ≠ 0) : rD (Rat.divInt n d) = .tuple [.int (d.sign * n / (d.gcd n)), .int (d.natAbs / (d.gcd n) : Nat)] := by
  unfold rD
  rw [Rat.num_divInt, Rat.den_divInt, if_neg hd]
theorem gcd_dvd_div {n d : Int} (g : Nat) (hg : g ≠ 0) (h : (g : Int) ∣ n) : n.fdiv g = n / g ∧ n.fdiv (-(g : Int)) = -n / g := by
  obtain ⟨k, rfl⟩ := h
  have h0 : (g : Int) ≠ 0 := by omega
  refine ⟨?_, ?_⟩
  · rw [Int.mul_fdiv_cancel_left _ h0, Int.mul_ediv_cancel_left _ h0]
  · rw [show (g : Int) * k = -(g : Int) * (-k) by rw [Int.neg_mul_neg], Int.mul_fdiv_cancel_left _ (by omega), show -(-(g : Int) * -k) = (g : Int) * (-k) by rw [Int.neg_mul_neg, Int.mul_neg], Int.mul_ediv_cancel_left _ h0]
theorem abs_if (z : Int) : (if z < 0 then -z else z) = (z.natAbs : Int) := by split <;> omega
theorem low_eq (n d : Int) (hd : d ≠ 0) {Q : D → Prop} (h : Q (rD (Rat.divInt n d))) : if d < 0 then Q (.tuple [.int (n.fdiv (-(n.gcd d : Int))), .int (d.fdiv (-(n.gcd d : Int)))]) else Q (.tuple [.int (n.fdiv (n.gcd d : Int)), .int (d.fdiv (n.gcd d : Int))]) := by
  have g0 : n.gcd d ≠ 0 := fun z => hd (Int.gcd_eq_zero_iff.mp z).2
  have k1 := gcd_dvd_div (d := d) (n.gcd d) g0 (Int.gcd_dvd_left n d)
  have k2 := gcd_dvd_div (d := d) (n.gcd d) g0 (Int.gcd_dvd_right n d)
  rw [divInt_rD n d hd, Int.gcd_comm d n] at h
  have hnat : ((d.natAbs / n.gcd d : Nat) : Int) = (d.natAbs : Int) / (n.gcd d : Int) := Int.natCast_ediv _ _
  rw [hnat] at h
  split
  · rename_i hn
    rw [k1.2, k2.2]
    rw [Int.sign_eq_neg_one_of_neg hn, show (d.natAbs : Int) = -d by omega] at h
    simpa using h
  · rename_i hn
    rw [k1.1, k2.1]
    rw [Int.sign_eq_one_of_pos (by omega), show (d.natAbs : Int) = d by omega] at h
    simpa using h
theorem gcd_divOk {n d : Int} {B : Nat} (hd : d ≠ 0) (hs : d.natAbs < 2 ^ B) (hB : B ≤ 8999) : divOk (n.gcd d : Int) ∧ divOk (-(n.gcd d : Int)) := by
  have g0 : n.gcd d ≠ 0 := fun z => hd (Int.gcd_eq_zero_iff.mp z).2
  have hle : n.gcd d ≤ d.natAbs := Nat.le_of_dvd (by omega) (Nat.gcd_dvd_right _ _)
  exact ⟨divOk_of (b := B) (by omega) (by rw [Int.natAbs_natCast]; omega) hB, divOk_of (b := B) (by omega) (by rw [Int.natAbs_neg, Int.natAbs_natCast]; omega) hB⟩
theorem add0 (a : Rat) : a + 0 = a := Rat.add_zero a
theorem sum_cons' (a : Rat) (l : List Rat) : (a :: l).sum = a + l.sum := List.sum_cons
/-- items as a list or a tuple -/
def seqOf (b : Bool) (ds : List D) : D := if b then .list ds else .tuple ds
def isRatB : D → Bool
  | .tuple [.int n, .int d] => decide (0 < d) && decide (Int.gcd n d = 1)
  | _ => false
def isWholeB : D → Bool
  | .int _ => true
  | _ => false
/-- the fraction that a datum is -/
def ratOf : D → Option Rat
  | .tuple [.int n, .int d] => if 0 < d ∧ Int.gcd n d = 1 then some (Rat.divInt n d) else none
  | _ => none
theorem ratOf_rD (q : Rat) : ratOf (rD q) = some q := by
  have h1 : (0 : Int) < q.den := by have := q.den_pos; omega
  have h2 : Int.gcd q.num q.den = 1 := q.reduced
  simp only [ratOf, rD, if_pos (And.intro h1 h2)]
  exact congrArg some (Rat.mkRat_self q)
theorem isRat_iff (d : D) : isRatB d = true ↔ ∃ q, d = rD q := by
  constructor
  · intro h
    unfold isRatB at h
    split at h
    · rename_i n m
      simp at h
      obtain ⟨h1, h2⟩ := h
      refine ⟨⟨n, m.toNat, by omega, ?_⟩, ?_⟩
      · have e : m.natAbs = m.toNat := by omega
        show Nat.gcd n.natAbs m.toNat = 1
        rw [← e]; exact h2
      · unfold rD
        simp
        omega
    · cases h
  · rintro ⟨q, rfl⟩
    have h1 : (0 : Int) < q.den := by have := q.den_pos; omega
    have h2 : Int.gcd q.num q.den = 1 := q.reduced
    simp [isRatB, rD, h1, h2]
    have := q.den_pos
    omega
theorem isRat_rD (q : Rat) : isRatB (rD q) = true := (isRat_iff _).mpr ⟨q, rfl⟩
theorem rD_inj {a b : Rat} (h : rD a = rD b) : a = b := by
  have := ratOf_rD a
  rw [h, ratOf_rD] at this
  exact (Option.some.inj this).symm
theorem shaped_rD (q : Rat) : SeqAt.shaped (rD q) = true := by
  simp [rD, SeqAt.shaped, PyData.canLay0, PyData.canLayAll0, PyData.depth, PyData.depthAll]
theorem eqv_rD (a b : Rat) : PyData.eqv (rD a) (rD b) = decide (a = b) := by
  have e : a = b ↔ a.num = b.num ∧ a.den = b.den := ⟨fun h => by subst h; exact ⟨rfl, rfl⟩, fun ⟨h1, h2⟩ => Rat.ext h1 h2⟩
  simp [rD, PyData.eqv, PyData.eqvAll, e]
  rw [Bool.eq_iff_iff]
  simp
  omega
theorem p_eq_rD {a b : Rat} {Q : D → Prop} (h : Q (.bool (decide (a = b)))) : o_eq (rD a) (rD b) Q := by
  have h' : Q (.bool (PyData.eqv (rD a) (rD b))) := by rw [eqv_rD]; exact h
  exact ⟨⟨shaped_rD a, shaped_rD b⟩, h'⟩

theorem lc_fun {g : uG} {e : uE} {ρ : Env} {Q : List D → Prop} (f : D → D) : ∀ (ds acc : List D), (∀ d ∈ ds, ∀ P : D → Prop, P (f d) → g d ρ (fun ρ' => e ρ' P noEx)) → Q (acc ++ ds.map f) → lcL g c_yes e ρ Q ds acc := by
  intro ds
  induction ds with
  | nil => intro acc _ h; simpa using h
  | cons d ds ih =>
    intro acc he h
    simp only [lcL, c_yes, if_true]
    refine he d List.mem_cons_self _ (ih _ (fun d hd => he d (List.mem_cons_of_mem _ hd)) ?_)
    simpa using h
theorem boolsOf_map {α : Type} (p : α → Bool) (l : List α) : boolsOf (l.map fun a => .bool (p a)) = some (l.map p) := by
  induction l with
  | nil => rfl
  | cons a l ih => simp [boolsOf, ih]
theorem upTo_eq : ∀ (n : Nat) (lo : Int), upTo lo n = (List.range n).map fun k => .int (lo + k)
  | 0, _ => rfl
  | n + 1, lo => by
    rw [List.range_succ_eq_map, upTo, upTo_eq n (lo + 1)]
    simp
    intro a _
    omega
theorem len_rD (qs : List Rat) : (qs.map rD).length = qs.length := List.length_map _
def ratsOf (ds : List D) : List Rat := ds.filterMap ratOf
theorem ratsOf_all {ds : List D} (h : ds.all isRatB = true) : ds = (ratsOf ds).map rD := by
  induction ds with
  | nil => rfl
  | cons d ds ih =>
    simp only [List.all_cons, Bool.and_eq_true] at h
    obtain ⟨q, rfl⟩ := (isRat_iff d).mp h.1
    have := ih h.2
    unfold ratsOf at this ⊢
    rw [List.filterMap_cons_some (ratOf_rD q), List.map_cons, ← this]
theorem ratsOf_map (qs : List Rat) : ratsOf (qs.map rD) = qs := by
  induction qs with
  | nil => rfl
  | cons q qs ih =>
    unfold ratsOf at ih ⊢
    rw [List.map_cons, List.filterMap_cons_some (ratOf_rD q), ih]
theorem all_isRat (qs : List Rat) : (qs.map rD).all isRatB = true := by
  rw [List.all_eq_true]
  intro d hd
  obtain ⟨q, _, rfl⟩ := List.mem_map.mp hd
  exact isRat_rD q
theorem num_nonneg (q : Rat) : decide (0 ≤ q.num) = decide (0 ≤ q) := by
  rw [decide_eq_decide]
  exact Rat.num_nonneg
def tR (qs : List Rat) : D := .tuple (qs.map rD)
theorem mem_le_sum : ∀ {l : List Rat}, (∀ q ∈ l, 0 ≤ q) → 0 ≤ l.sum ∧ ∀ q ∈ l, q ≤ l.sum
  | [], _ => ⟨Rat.le_refl, fun _ h => by cases h⟩
  | a :: l, h => by
    have ha := h a List.mem_cons_self
    obtain ⟨h1, h2⟩ := mem_le_sum (l := l) fun q hq => h q (List.mem_cons_of_mem _ hq)
    rw [sum_cons']
    refine ⟨by grind, fun q hq => ?_⟩
    rcases List.mem_cons.mp hq with rfl | hq
    · grind
    · have := h2 q hq
      grind
/-- a fraction from 0 to 1 is as small as its lower part -/
theorem sz_unit {q : Rat} {B : Nat} (h0 : 0 ≤ q) (h1 : q ≤ 1) (h : q.den < 2 ^ B) : sz B q := by
  refine ⟨?_, h⟩
  have k0 : 0 ≤ q.num := Rat.num_nonneg.mpr h0
  have k1 : q.num ≤ q.den := by
    have := (Rat.le_iff q 1).mp h1
    simpa using this
  omega
theorem for_inv {g : uG} {b : uS} {K : Ends} (I : Nat → Env → Prop) : ∀ (ds : List D) (ρ : Env) (k0 : Nat), (∀ k d ρ (N : Env → Prop), ds[k]? = some d → I (k0 + k) ρ → (∀ ρ', I (k0 + k + 1) ρ' → N ρ') → g d ρ (fun ρ' => b { K with nx := N, ct := N, bk := K.nx } ρ')) →
    I k0 ρ → (∀ ρ, I (k0 + ds.length) ρ → K.nx ρ) → forL g b K ds ρ := by
  intro ds
  induction ds with
  | nil => intro ρ k0 _ h0 he; exact he ρ h0
  | cons d ds ih =>
    intro ρ k0 step h0 he
    refine step 0 d ρ _ rfl h0 fun ρ' h' => ?_
    refine ih ρ' (k0 + 1) (fun k d ρ N hd hI hN => ?_) h' (fun ρ h => he ρ (by rw [List.length_cons]; rwa [Nat.add_assoc, Nat.add_comm 1] at h))
    refine step (k + 1) d ρ N (by simpa using hd) (by rwa [Nat.add_assoc, Nat.add_comm 1] at hI) fun ρ'' h'' => hN ρ'' ?_
    rwa [Nat.add_assoc k0 1 k, Nat.add_comm 1 k]
/-- for k in range(lo, lo + n) -/
theorem for_up {g : uG} {b : uS} {K : Ends} (I : Nat → Env → Prop) (n : Nat) (lo : Int) {ρ : Env} (step : ∀ (k : Nat) ρ (N : Env → Prop), k < n → I k ρ → (∀ ρ', I (k + 1) ρ' → N ρ') → g (.int (lo + k)) ρ (fun ρ' => b { K with nx := N, ct := N, bk := K.nx } ρ'))
    (h0 : I 0 ρ) (he : ∀ ρ, I n ρ → K.nx ρ) : forL g b K (upTo lo n) ρ := by
  refine for_inv I (upTo lo n) ρ 0 (fun k d ρ N hd hI hN => ?_) h0 (fun ρ h => he ρ ?_)
  · rw [upTo_eq, List.getElem?_map] at hd
    cases q : (List.range n)[k]? with
    | none => rw [q] at hd; cases hd
    | some j =>
      rw [q] at hd
      obtain ⟨hk, e⟩ := List.getElem?_eq_some_iff.mp q
      rw [List.length_range] at hk
      rw [List.getElem_range] at e
      subst e
      cases hd
      rw [Nat.zero_add] at hI hN
      exact step k ρ N hk hI hN
  · rwa [upTo_eq, List.length_map, List.length_range, Nat.zero_add] at h
theorem lc_any {g : uG} {e : uE} {ρ : Env} {Q : List D → Prop} (R : D → Prop) : ∀ (ds acc : List D), (∀ d ∈ ds, ∀ P : D → Prop, (∀ v, R v → P v) → g d ρ (fun ρ' => e ρ' P noEx)) →
    (∀ vs : List D, vs.length = ds.length → (∀ v ∈ vs, R v) → Q (acc ++ vs)) → lcL g c_yes e ρ Q ds acc := by
  intro ds
  induction ds with
  | nil =>
    intro acc _ h
    have := h [] rfl (fun _ h => by cases h)
    simpa using this
  | cons d ds ih =>
    intro acc he h
    simp only [lcL, c_yes, if_true]
    refine he d List.mem_cons_self _ fun v hv => ih _ (fun d hd => he d (List.mem_cons_of_mem _ hd)) fun vs hl hR => ?_
    have := h (v :: vs) (by simp [hl]) (fun u hu => by
      rcases List.mem_cons.mp hu with rfl | hu
      · exact hv
      · exact hR u hu)
    simpa using this
/-- lists of ints as data -/
def iL (ns : List Int) : List D := ns.map PyData.int
theorem iL_of {R : Int → Prop} : ∀ {vs : List D}, (∀ v ∈ vs, ∃ n : Int, v = .int n ∧ R n) → ∃ ns : List Int, vs = iL ns ∧ ∀ n ∈ ns, R n
  | [], _ => ⟨[], rfl, fun _ h => by cases h⟩
  | v :: vs, h => by
    obtain ⟨n, rfl, hn⟩ := h v List.mem_cons_self
    obtain ⟨ns, rfl, hs⟩ := iL_of (vs := vs) fun u hu => h u (List.mem_cons_of_mem _ hu)
    refine ⟨n :: ns, rfl, fun m hm => ?_⟩
    rcases List.mem_cons.mp hm with rfl | hm
    · exact hn
    · exact hs m hm
theorem intsOf_iL (ns : List Int) : intsOf (iL ns) = some ns := by
  induction ns with
  | nil => rfl
  | cons n ns ih =>
    unfold iL at ih ⊢
    simp [intsOf, ih]
theorem iL_len (ns : List Int) : (iL ns).length = ns.length := List.length_map _
theorem iL_get (ns : List Int) (k : Nat) : (iL ns)[k]? = (ns[k]?).map PyData.int := List.getElem?_map
theorem iL_set (ns : List Int) (k : Nat) (v : Int) : (iL ns).set k (.int v) = iL (ns.set k v) := by
  unfold iL
  rw [List.map_set]
theorem sum_pos : ∀ {ns : List Int}, (∀ n ∈ ns, 0 ≤ n) → 0 ≤ ns.sum ∧ ∀ n ∈ ns, n ≤ ns.sum
  | [], _ => ⟨Int.le_refl _, fun _ h => by cases h⟩
  | a :: ns, h => by
    have ha := h a List.mem_cons_self
    obtain ⟨h1, h2⟩ := sum_pos (ns := ns) fun q hq => h q (List.mem_cons_of_mem _ hq)
    rw [List.sum_cons]
    refine ⟨by omega, fun q hq => ?_⟩
    rcases List.mem_cons.mp hq with rfl | hq
    · omega
    · have := h2 q hq
      omega
theorem sum_le : ∀ {ns : List Int} {b : Int}, (∀ n ∈ ns, n ≤ b) → ns.sum ≤ ns.length * b
  | [], _, _ => by simp
  | a :: ns, b, h => by
    have ha := h a List.mem_cons_self
    have h1 := sum_le (ns := ns) (b := b) fun q hq => h q (List.mem_cons_of_mem _ hq)
    rw [List.sum_cons, List.length_cons, Int.natCast_add, Int.add_mul]
    omega
theorem divInt_add_same (a b s : Int) (hs : s ≠ 0) : Rat.divInt a s + Rat.divInt b s = Rat.divInt (a + b) s := by
  rw [Rat.divInt_eq_div, Rat.divInt_eq_div, Rat.divInt_eq_div, Rat.intCast_add, Rat.div_def, Rat.div_def, Rat.div_def, Rat.add_mul]
theorem divInt_sum (s : Int) (hs : s ≠ 0) : ∀ ns : List Int, (ns.map fun n => Rat.divInt n s).sum = Rat.divInt ns.sum s
  | [] => by simp
  | n :: ns => by rw [List.map_cons, sum_cons', divInt_sum s hs ns, List.sum_cons, divInt_add_same _ _ _ hs]
theorem divInt_self' (s : Int) (hs : s ≠ 0) : Rat.divInt s s = 1 := by
  rw [Rat.divInt_eq_div, Rat.div_def, Rat.mul_inv_cancel]
  exact fun h => hs (Rat.intCast_eq_zero_iff.mp h)
theorem divInt_nonneg {n s : Int} (hn : 0 ≤ n) (hs : 0 < s) : 0 ≤ Rat.divInt n s := by
  rw [← Rat.num_nonneg, Rat.num_divInt, Int.sign_eq_one_of_pos hs, Int.one_mul]
  exact Int.ediv_nonneg hn (by omega)
theorem at_nat {ds : List D} {k : Nat} {d : D} (h : ds[k]? = some d) : at_ ds (k : Int) = some d := by
  unfold at_
  rw [if_pos (by omega), Int.toNat_natCast, h]
theorem at_iL {ns : List Int} {k : Nat} (h : k < ns.length) : at_ (iL ns) (k : Int) = some (.int (ns.getD k 0)) := by
  apply at_nat
  rw [iL_get, List.getElem?_eq_getElem h, List.getD_eq_getElem?_getD, List.getElem?_eq_getElem h]
  rfl
theorem getD_mem {ns : List Int} {k : Nat} (h : k < ns.length) : ns.getD k 0 ∈ ns := by
  rw [List.getD_eq_getElem?_getD, List.getElem?_eq_getElem h]
  exact List.getElem_mem h
/-- a slot that holds a list, one's own or not -/
def isL (s : Sl) (ds : List D) : Prop := s = .own ds ∨ s = .val (.list ds)
theorem bOf_isL {s : Sl} {ds : List D} (h : isL s ds) (Q : D → Prop) : bOf (some s) Q = Q (.list ds) := by
  rcases h with rfl | rfl <;> rfl
def lR (qs : List Rat) : D := .list (qs.map rD)
def bnd (b : Int) (ns : List Int) : Prop := ∀ z ∈ ns, 0 ≤ z ∧ z ≤ b
theorem bnd_at {b : Int} {ns : List Int} {k : Nat} (h : bnd b ns) (hk : k < ns.length) : 0 ≤ ns.getD k 0 ∧ ns.getD k 0 ≤ b := h _ (getD_mem hk)
theorem stepTo_eq : ∀ (n : Nat) (lo c : Int), stepTo lo c n = (List.range n).map fun k => .int (lo + k * c)
  | 0, _, _ => rfl
  | n + 1, lo, c => by
    rw [List.range_succ_eq_map, stepTo, stepTo_eq n (lo + c) c]
    simp
    intro a _
    rw [Int.add_mul]
    omega
def zF (f : Int → D) : D → D
  | .int z => f z
  | d => d
/-- for k in range(lo, .., -1) -/
theorem for_down {g : uG} {b : uS} {K : Ends} (I : Nat → Env → Prop) (n : Nat) (lo : Int) {ρ : Env} (step : ∀ (k : Nat) ρ (N : Env → Prop), k < n → I k ρ → (∀ ρ', I (k + 1) ρ' → N ρ') → g (.int (lo - k)) ρ (fun ρ' => b { K with nx := N, ct := N, bk := K.nx } ρ'))
    (h0 : I 0 ρ) (he : ∀ ρ, I n ρ → K.nx ρ) : forL g b K (stepTo lo (-1) n) ρ := by
  refine for_inv I (stepTo lo (-1) n) ρ 0 (fun k d ρ N hd hI hN => ?_) h0 (fun ρ h => he ρ ?_)
  · rw [stepTo_eq, List.getElem?_map] at hd
    cases q : (List.range n)[k]? with
    | none => rw [q] at hd; cases hd
    | some j =>
      rw [q] at hd
      obtain ⟨hk, e⟩ := List.getElem?_eq_some_iff.mp q
      rw [List.length_range] at hk
      rw [List.getElem_range] at e
      subst e
      cases hd
      rw [Nat.zero_add] at hI hN
      have := step k ρ N hk hI hN
      rwa [show lo - (k : Int) = lo + k * -1 by omega] at this
  · rwa [stepTo_eq, List.length_map, List.length_range, Nat.zero_add] at h
theorem iL_app (row : List Int) (v : Int) : iL row ++ [.int v] = iL (row ++ [v]) := by unfold iL; rw [List.map_append]; rfl
theorem bnd_app {row : List Int} {b v : Int} (h : bnd b row) (h0 : 0 ≤ v) (h8 : v ≤ b) : bnd b (row ++ [v]) := fun z hz => by
  rcases List.mem_append.mp hz with hz | hz
  · exact h z hz
  · rw [List.mem_singleton.mp hz]; exact ⟨h0, h8⟩
theorem at_pred {ns : List Int} {k : Nat} (h0 : 0 < k) (h : k - 1 < ns.length) : at_ (iL ns) ((k : Int) - 1) = some (.int (ns.getD (k - 1) 0)) := by
  rw [show (k : Int) - 1 = ((k - 1 : Nat) : Int) by omega]
  exact at_iL h
theorem getD_set (ns : List Int) (k j : Nat) (v : Int) (hk : k < ns.length) : (ns.set k v).getD j 0 = if j = k then v else ns.getD j 0 := by
  rw [List.getD_eq_getElem?_getD, List.getD_eq_getElem?_getD, List.getElem?_set]
  by_cases h : k = j
  · subst h; simp [hk]
  · rw [if_neg h, if_neg (fun e => h e.symm)]
theorem seq_mid {t u : uS} {K : Ends} {ρ : Env} (P : Env → Prop) (h1 : ∀ N : Env → Prop, (∀ ρ', P ρ' → N ρ') → t { K with nx := N } ρ) (h2 : ∀ ρ', P ρ' → u K ρ') : s_seq t u K ρ := h1 _ h2
theorem if_any {c : uC} {t u : uS} {K : Ends} {ρ : Env} (hc : ∀ Q : Bool → Prop, (∀ k, Q k) → c ρ Q K.ex) (ht : t K ρ) (hu : u K ρ) : s_if c t u K ρ :=
  hc _ fun k => by cases k <;> simpa
def pv : D → Rat
  | .tuple [.int a, .int b] => Rat.divInt a b
  | _ => 0
theorem sum_set (v : Rat) : ∀ (l : List Rat) (k : Nat) (hk : k < l.length), (l.set k v).sum = l.sum + (v - l[k])
  | [], _, hk => by cases hk
  | a :: l, 0, _ => by simp only [List.set_cons_zero, List.getElem_cons_zero, sum_cons']; grind
  | a :: l, k + 1, hk => by
    have := sum_set v l k (by simpa using hk)
    simp only [List.set_cons_succ, List.getElem_cons_succ, sum_cons', this]
    grind
theorem zeros_sum (n : Nat) : (List.replicate n (0 : Rat)).sum = 0 := by
  induction n with
  | zero => rfl
  | succ n ih => rw [List.replicate_succ, sum_cons', ih, Rat.add_zero]
theorem rep_flat (d : D) (n : Nat) : (List.replicate n [d]).flatten = List.replicate n d := by
  induction n with
  | zero => rfl
  | succ n ih => rw [List.replicate_succ, List.flatten_cons, ih, List.replicate_succ]; rfl
theorem pv_rD (q : Rat) : pv (rD q) = q := Rat.mkRat_self q
theorem fdiv2 (i : Nat) : (i : Int).fdiv 2 = ((i / 2 : Nat) : Int) := by
  rw [Int.fdiv_eq_ediv_of_nonneg _ (by decide)]; rfl
theorem at_eq {ds : List D} {k : Nat} {z : Int} {d : D} (e : z = k) (h : ds[k]? = some d) : at_ ds z = some d := by
  subst e; exact at_nat h
theorem ix_nat {n k : Nat} {z : Int} {Q : Nat → Prop} (e : z = k) (hk : k < n) (h : Q k) : ixOf n z Q := by
  subst e
  simp only [ixOf, if_pos (show (0 : Int) ≤ (k : Int) by omega), Int.toNat_natCast]
  exact ⟨by omega, h⟩
def sumR (n : Nat) (f : Nat → Rat) : Rat := ((List.range n).map f).sum
theorem sumR_succ (n : Nat) (f : Nat → Rat) : sumR (n + 1) f = sumR n f + f n := by
  unfold sumR
  rw [List.range_succ, List.map_append, List.sum_append]
  simp only [List.map_cons, List.map_nil, List.sum_cons, List.sum_nil, Rat.add_zero]
theorem sumR_congr {n : Nat} {f g : Nat → Rat} (h : ∀ i < n, f i = g i) : sumR n f = sumR n g := by
  unfold sumR
  congr 1
  exact List.map_congr_left fun i hi => h i (List.mem_range.mp hi)
theorem sumR_add (f g : Nat → Rat) : ∀ n, sumR n (fun i => f i + g i) = sumR n f + sumR n g
  | 0 => by simp [sumR, Rat.add_zero]
  | n + 1 => by rw [sumR_succ, sumR_succ, sumR_succ, sumR_add f g n]; grind
theorem sumR_mul (c : Rat) (f : Nat → Rat) : ∀ n, sumR n (fun i => c * f i) = c * sumR n f
  | 0 => by simp [sumR]
  | n + 1 => by rw [sumR_succ, sumR_succ, sumR_mul c f n]; grind
theorem sumR_zero : ∀ n, sumR n (fun _ => 0) = 0
  | 0 => rfl
  | n + 1 => by rw [sumR_succ, sumR_zero n, Rat.add_zero]
theorem sumR_swap (f : Nat → Nat → Rat) (n : Nat) : ∀ k, sumR k (fun j => sumR n fun i => f i j) = sumR n fun i => sumR k (f i)
  | 0 => by
    have : ∀ i, sumR 0 (f i) = 0 := fun _ => rfl
    simp only [this, sumR_zero]
    rfl
  | k + 1 => by
    rw [sumR_succ, sumR_swap f n k, ← sumR_add]
    exact sumR_congr fun i _ => (sumR_succ k (f i)).symm
def gt (r : List Rat) (i : Nat) : Rat := r.getD i 0
theorem gt_lt {r : List Rat} {i : Nat} (h : i < r.length) : r[i]? = some (gt r i) := by
  unfold gt
  rw [List.getD_eq_getElem?_getD, List.getElem?_eq_getElem h]; rfl
theorem gt_mem {r : List Rat} {i : Nat} (h : i < r.length) : gt r i ∈ r := List.mem_of_getElem? (gt_lt h)
theorem take_sum (r : List Rat) : ∀ j, j ≤ r.length → (r.take j).sum = sumR j (gt r)
  | 0, _ => by simp [sumR]
  | j + 1, h => by
    rw [List.take_succ, List.sum_append, take_sum r j (by omega), sumR_succ, gt_lt (by omega)]
    simp only [Option.toList, List.sum_cons, List.sum_nil, Rat.add_zero]
theorem all_sum (r : List Rat) : r.sum = sumR r.length (gt r) := by
  rw [← take_sum r r.length (Nat.le_refl _), List.take_length]
/-- if c falls and a's sums are at least b's, so are those with c -/
theorem abel {a b c : Nat → Rat} : ∀ n : Nat, (∀ k, k ≤ n + 1 → sumR k b ≤ sumR k a) → (∀ i, i < n → c (i + 1) ≤ c i) → (sumR (n + 1) a - sumR (n + 1) b) * c n ≤ sumR (n + 1) (fun i => a i * c i) - sumR (n + 1) fun i => b i * c i
  | 0, _, _ => by
    simp only [sumR_succ, show ∀ f, sumR 0 f = 0 from fun _ => rfl]
    grind
  | n + 1, h, hc => by
    have ih := abel n (fun k hk => h k (by omega)) (fun i hi => hc i (by omega))
    have h1 := h (n + 1) (by omega)
    have h2 := hc n (by omega)
    have h3 : (sumR (n + 1) a - sumR (n + 1) b) * c (n + 1) ≤ (sumR (n + 1) a - sumR (n + 1) b) * c n := Rat.mul_le_mul_of_nonneg_left h2 (by grind)
    rw [sumR_succ (n + 1) a, sumR_succ (n + 1) b, sumR_succ (n + 1) fun i => a i * c i, sumR_succ (n + 1) fun i => b i * c i]
    grind
theorem sz_sum {B : Nat} : ∀ {qs : List Rat}, (∀ q ∈ qs, sz B q) → sz (1 + qs.length * (B + 1)) qs.sum
  | [], _ => by simpa using sz_zero
  | q :: qs, h => by
    rw [sum_cons', List.length_cons]
    refine sz.mono (sz_add (h q List.mem_cons_self) (sz_sum fun r hr => h r (List.mem_cons_of_mem _ hr))) ?_
    rw [Nat.add_mul, Nat.one_mul]
    omega
theorem cut_take (xs : List D) (j : Nat) : cut xs none (some (j : Int)) = xs.take j := by
  simp only [cut, clampIx]
  rw [if_pos (by omega), Int.toNat_natCast, List.drop_zero, Nat.sub_zero]
  by_cases h : j ≤ xs.length
  · rw [Nat.min_eq_left h]
  · rw [Nat.min_eq_right (by omega), List.take_length, List.take_of_length_le (by omega)]
def P (r : List Rat) (j : Nat) : Rat := (r.take j).sum
theorem sz_P {B n : Nat} {r : List Rat} (h : ∀ q ∈ r, sz B q) (hl : r.length ≤ n) (j : Nat) : sz (1 + n * (B + 1)) (P r j) := by
  refine sz.mono (sz_sum fun q hq => h q (List.mem_of_mem_take hq)) ?_
  have : (r.take j).length ≤ n := by rw [List.length_take]; omega
  exact Nat.add_le_add_left (Nat.mul_le_mul_right _ this) 1
theorem for_find {g : uG} {b : uS} {K : Ends} {α : Type} (c : α → D) (p : α → Bool) (v : α → D) (R : Env → Prop) : ∀ (ks : List α) (ρ : Env), (∀ k ∈ ks, ∀ ρ (N : Env → Prop), R ρ → (p k = true → K.rt (v k)) → (p k = false → ∀ ρ', R ρ' → N ρ') → g (c k) ρ (fun ρ' => b { K with nx := N, ct := N, bk := K.nx } ρ')) →
    R ρ → (∀ k, ks.find? p = some k → K.rt (v k)) → (ks.find? p = none → ∀ ρ, R ρ → K.nx ρ) → forL g b K (ks.map c) ρ := by
  intro ks
  induction ks with
  | nil => intro ρ _ hR _ h; exact h rfl ρ hR
  | cons k ks ih =>
    intro ρ step hR h1 h2
    refine step k List.mem_cons_self ρ _ hR (fun hp => h1 k (by rw [List.find?_cons_of_pos hp])) fun hp ρ' hR' => ?_
    refine ih ρ' (fun k hk => step k (List.mem_cons_of_mem _ hk)) hR' (fun k' hk' => h1 k' ?_) (fun hn => h2 ?_)
    · rwa [List.find?_cons_of_neg (by simp [hp])]
    · rwa [List.find?_cons_of_neg (by simp [hp])]
theorem at_tR {r : List Rat} {i : Nat} (h : i < r.length) : at_ (r.map rD) (i : Int) = some (rD (gt r i)) := by
  apply at_nat
  rw [List.getElem?_map, gt_lt h]; rfl
theorem cut_take1 (xs : List D) : cut xs none (some 1) = xs.take 1 := cut_take xs 1
theorem cut_drop1 (xs : List D) (h : 1 ≤ xs.length) : cut xs (some 1) none = xs.drop 1 := by
  simp only [cut, clampIx]
  rw [if_pos (by omega), show (1 : Int).toNat = 1 from rfl, Nat.min_eq_left h, List.take_of_length_le (by rw [List.length_drop]; omega)]
theorem at_all {R : D → Prop} {ds : List D} (h : ∀ d ∈ ds, R d) {r : Int} (h0 : 0 ≤ r) (h1 : r < ds.length) {Q : D → Prop} (hQ : ∀ d, R d → Q d) : oOf Q (at_ ds r) := by
  obtain ⟨k, rfl⟩ : ∃ k : Nat, r = k := ⟨r.toNat, by omega⟩
  have hk : k < ds.length := by omega
  rw [at_nat (List.getElem?_eq_getElem hk)]
  exact hQ _ (h _ (List.getElem_mem hk))
theorem all_app {R : D → Prop} {a b : List D} (ha : ∀ d ∈ a, R d) (hb : ∀ d ∈ b, R d) : ∀ d ∈ a ++ b, R d := fun d hd => (List.mem_append.mp hd).elim (ha d) (hb d)
def toL : D → D
  | .tuple ds => .list ds
  | d => d
theorem eq_str {s t : Str} {Q : D → Prop} (hs : PyData.strOk s = true) (ht : PyData.strOk t = true) (h : Q (.bool (decide (s = t)))) : o_eq (.str s) (.str t) Q := by
  refine ⟨⟨by simp [SeqAt.shaped, PyData.canLay0, PyData.depth, hs], by simp [SeqAt.shaped, PyData.canLay0, PyData.depth, ht]⟩, ?_⟩
  have e : PyData.eqv (.str s) (.str t) = decide (s = t) := by
    simp [PyData.eqv]
    rw [Bool.eq_iff_iff]
    simp
  rw [e]
  exact h
theorem ne_str_self {s : Str} {Q : D → Prop} (hs : PyData.strOk s = true) (h : Q (.bool false)) : o_ne (.str s) (.str s) Q := by
  refine ⟨⟨by simp [SeqAt.shaped, PyData.canLay0, PyData.depth, hs], by simp [SeqAt.shaped, PyData.canLay0, PyData.depth, hs]⟩, ?_⟩
  have e : PyData.eqv (.str s) (.str s) = true := by simp [PyData.eqv]
  rw [e]
  exact h

/-! What a repr is: good, and not too long. -/
theorem sz_sub {A B : Nat} {a b : Rat} (ha : sz A a) (hb : sz B b) : sz (A + B + 1) (a - b) := by
  rw [Rat.sub_eq_add_neg]; exact sz_add ha (sz_neg hb)
theorem sz_inv {B : Nat} {b : Rat} (hb : sz B b) : sz B b⁻¹ := by
  refine ⟨?_, ?_⟩
  · rw [Rat.num_inv, Int.natAbs_mul]
    refine Nat.lt_of_le_of_lt ?_ hb.2
    have : (Int.sign b.num).natAbs ≤ 1 := by
      rcases Int.lt_trichotomy b.num 0 with h | h | h
      · rw [Int.sign_eq_neg_one_of_neg h]; decide
      · rw [h]; decide
      · rw [Int.sign_eq_one_of_pos h]; decide
    have := Nat.mul_le_mul_right ((b.den : Int).natAbs) this
    simpa using this
  · rw [Rat.den_inv]
    split
    · exact Nat.lt_of_le_of_lt b.den_pos hb.2
    · exact hb.1
theorem sz_div {A B : Nat} {a b : Rat} (ha : sz A a) (hb : sz B b) : sz (A + B) (a / b) := by
  rw [Rat.div_def]; exact sz_mul ha (sz_inv hb)
theorem sz_divInt {A : Nat} {n d : Int} (hn : n.natAbs < 2 ^ A) (hd : d.natAbs < 2 ^ A) (h0 : d ≠ 0) : sz A (Rat.divInt n d) :=
  ⟨Nat.lt_of_le_of_lt (divInt_num_le n d) hn, Nat.lt_of_le_of_lt (divInt_den_le n d h0) hd⟩
open PyData in
theorem strOk_app (a b : Str) : PyData.strOk (a ++ b) = (PyData.strOk a && PyData.strOk b) := by
  show (a.cps ++ b.cps).all _ = (a.cps.all _ && b.cps.all _)
  rw [Array.all_append]
theorem strOk_join (sep : Str) (hs : PyData.strOk sep = true) : ∀ ts : List Str, (∀ t ∈ ts, PyData.strOk t = true) → PyData.strOk (Str.join sep ts) = true
  | [], _ => by show Array.all #[] _ = true; simp
  | [x], h => h x List.mem_cons_self
  | x :: y :: r, h => by
    show PyData.strOk (x ++ sep ++ Str.join sep (y :: r)) = true
    rw [strOk_app, strOk_app, h x List.mem_cons_self, hs, strOk_join sep hs (y :: r) fun t ht => h t (List.mem_cons_of_mem _ ht)]
    rfl
theorem strOk_int (i : Int) : PyData.strOk (Str.ofString (toString i)) = true := by
  rw [Str.ofString_eq_toList]
  show Array.all _ _ = true
  rw [List.all_toArray, List.all_eq_true]
  intro c hc
  obtain ⟨d, hd, rfl⟩ := List.mem_map.mp hc
  have := int_ascii i d hd
  simp only [decide_eq_true_eq]
  omega
mutual
/-- texts of these are good -/
def okS : D → Bool
  | .none | .bool _ => true
  | .int i => decide (i.natAbs.log2 < 1920)
  | .str s => PyData.strOk (reprText s) && decide ((reprText s).length ≤ 1921)
  | .list xs | .tuple xs => okSAll xs
  | .dict _ => false
def okSAll : List D → Bool
  | [] => true
  | x :: xs => okS x && okSAll xs
end
mutual
/-- no text is longer -/
def wt : D → Nat
  | .none | .bool _ | .int _ | .str _ | .dict _ => 1921
  | .list xs | .tuple xs => 3 + wtAll xs
def wtAll : List D → Nat
  | [] => 0
  | x :: xs => wt x + 2 + wtAll xs
end
mutual
theorem showable_okS : ∀ d, okS d = true → PyData.showable d = true ∧ PyData.hasDict d = false
  | .none, _ | .bool _, _ | .str _, _ => ⟨rfl, rfl⟩
  | .int i, h => ⟨by simpa [okS, PyData.showable] using h, rfl⟩
  | .list xs, h | .tuple xs, h => by
    have := showableAll_okS xs (by simpa [okS] using h)
    exact ⟨by simpa [PyData.showable] using this.1, by simpa [PyData.hasDict] using this.2⟩
  | .dict _, h => by simp [okS] at h
theorem showableAll_okS : ∀ ds, okSAll ds = true → PyData.showableAll ds = true ∧ PyData.hasDictAll ds = false
  | [], _ => ⟨rfl, rfl⟩
  | d :: ds, h => by
    simp only [okSAll, Bool.and_eq_true] at h
    have h1 := showable_okS d h.1
    have h2 := showableAll_okS ds h.2
    simp [PyData.showableAll, PyData.hasDictAll, h1, h2]
end
mutual
theorem shown_okS : ∀ d, okS d = true → (PyData.shown d).length ≤ wt d ∧ PyData.strOk (PyData.shown d) = true
  | .none, _ => ⟨by decide +kernel, by decide +kernel⟩
  | .bool true, _ => ⟨by decide +kernel, by decide +kernel⟩
  | .bool false, _ => ⟨by decide +kernel, by decide +kernel⟩
  | .int i, h => by
    simp only [okS, decide_eq_true_eq] at h
    exact ⟨PyProof.Rows.int_text_len_1921 h, strOk_int i⟩
  | .str s, h => by
    simp only [okS, Bool.and_eq_true, decide_eq_true_eq] at h
    exact ⟨h.2, h.1⟩
  | .list xs, h => by
    have := shownAll_okS xs (by simpa [okS] using h)
    refine ⟨?_, ?_⟩
    · refine Nat.le_trans (listText_len_le _) ?_
      show _ ≤ 3 + wtAll xs
      omega
    · show PyData.strOk (listText (PyData.shownAll xs)) = true
      rw [listText_eq_join, strOk_app, strOk_app, strOk_join _ (by decide +kernel) _ this.2]
      decide +kernel
  | .tuple xs, h => by
    have := shownAll_okS xs (by simpa [okS] using h)
    refine ⟨?_, ?_⟩
    · refine Nat.le_trans (tupleText_len_le _) ?_
      show _ ≤ 3 + wtAll xs
      omega
    · show PyData.strOk (tupleText (PyData.shownAll xs)) = true
      unfold tupleText
      rw [strOk_app, strOk_app, strOk_join _ (by decide +kernel) _ this.2]
      split <;> decide +kernel
  | .dict _, h => by simp [okS] at h
theorem shownAll_okS : ∀ ds, okSAll ds = true → ((PyData.shownAll ds).map (·.length)).sum + 2 * (PyData.shownAll ds).length ≤ wtAll ds ∧ ∀ t ∈ PyData.shownAll ds, PyData.strOk t = true
  | [], _ => ⟨Nat.le_refl _, fun _ h => nomatch h⟩
  | d :: ds, h => by
    simp only [okSAll, Bool.and_eq_true] at h
    have h1 := shown_okS d h.1
    have h2 := shownAll_okS ds h.2
    refine ⟨?_, fun t ht => ?_⟩
    · simp only [PyData.shownAll, List.map_cons, List.sum_cons, List.length_cons, wtAll]
      omega
    · simp only [PyData.shownAll, List.mem_cons] at ht
      rcases ht with rfl | ht
      · exact h1.2
      · exact h2.2 t ht
end
/-- d has a good repr -/
def shG (d : D) : Prop := okS d = true ∧ wt d ≤ 1000000 ∧ PyData.depth d ≤ 60
theorem shG.ok {d : D} (h : shG d) : showOk d := ⟨(showable_okS d h.1).1, (showable_okS d h.1).2, Nat.le_trans (shown_okS d h.1).1 h.2.1, h.2.2⟩
theorem shG.str {d : D} (h : shG d) : PyData.strOk (PyData.shown d) = true := (shown_okS d h.1).2
theorem okS_rD {q : Rat} {B : Nat} (h : sz B q) (hB : B ≤ 1919) : okS (rD q) = true := by
  have h1 := log2_lt_of (by omega) (Nat.lt_of_lt_of_le h.1 (two_le hB))
  have h2 := log2_lt_of (by omega) (Nat.lt_of_lt_of_le h.2 (two_le hB))
  simp [rD, okS, okSAll]
  omega
theorem wt_rD (q : Rat) : wt (rD q) = 3849 := rfl
theorem depth_rD (q : Rat) : PyData.depth (rD q) = PyData.depth (rD 0) := by
  simp [rD, PyData.depth, PyData.depthAll]
theorem shG_rD {q : Rat} {B : Nat} (h : sz B q) (hB : B ≤ 1919) : shG (rD q) :=
  ⟨okS_rD h hB, by rw [wt_rD]; decide, by rw [depth_rD]; decide⟩
theorem okSAll_iff (ds : List D) : okSAll ds = true ↔ ∀ d ∈ ds, okS d = true := by
  induction ds with
  | nil => simp [okSAll]
  | cons d ds ih => simp [okSAll, ih]
theorem wtAll_le {ds : List D} {b : Nat} (h : ∀ d ∈ ds, wt d ≤ b) : wtAll ds ≤ ds.length * (b + 2) := by
  induction ds with
  | nil => simp [wtAll]
  | cons d ds ih =>
    have h1 := h d List.mem_cons_self
    have h2 := ih fun d hd => h d (List.mem_cons_of_mem _ hd)
    simp only [wtAll, List.length_cons, Nat.succ_mul]
    omega
theorem depthAll_le {ds : List D} {b : Nat} (h : ∀ d ∈ ds, PyData.depth d ≤ b) : PyData.depthAll ds ≤ b := by
  induction ds with
  | nil => simp [PyData.depthAll]
  | cons d ds ih =>
    have h1 := h d List.mem_cons_self
    have h2 := ih fun d hd => h d (List.mem_cons_of_mem _ hd)
    simp only [PyData.depthAll]
    omega
/-- repr(a) != repr(b) of the same good datum -/
theorem ne_repr {d : D} (h : shG d) {Q : D → Prop} (hQ : Q (.bool false)) : o_ne (.str (PyData.shown d)) (.str (PyData.shown d)) Q := ne_str_self h.str hQ

/-! Tactics and rules over the pure layer (printed by mt.py). -/
theorem at_0 (a : D) (l : List D) : at_ (a :: l) 0 = some a := rfl
theorem at_1 (a b : D) (l : List D) : at_ (a :: b :: l) 1 = some b := rfl
theorem at_2 (a b c : D) (l : List D) : at_ (a :: b :: c :: l) 2 = some c := rfl
theorem ix_rD0 (q : Rat) (Q : D → Prop) : o_ix (rD q) (.int 0) Q = Q (.int q.num) := rfl
theorem ix_rD1 (q : Rat) (Q : D → Prop) : o_ix (rD q) (.int 1) Q = Q (.int q.den) := rfl
local macro_rules
  | `(tactic| dsimp!) => `(tactic| simp -implicitDefEqProofs only [e_c.eq_1, vOf.eq_1, vOf.eq_2, bOf.eq_1, bOf.eq_2, bOf.eq_3, e_v.eq_1, b_v.eq_1, e_f.eq_1, e_op.eq_1, e_un.eq_1, o_add.eq_1, o_add.eq_2, o_add.eq_3, o_add.eq_4, o_add.eq_5, o_sub.eq_1, o_sub.eq_2, o_mul.eq_1, o_mul.eq_2, o_mul.eq_3, o_mul.eq_4, o_fdiv.eq_1, o_fdiv.eq_2, o_mod.eq_1, o_mod.eq_2, o_lt.eq_1, o_lt.eq_2, o_le.eq_1, o_le.eq_2, o_gt.eq_1, o_gt.eq_2, o_ge.eq_1, o_ge.eq_2, o_eq_int, o_ne_int, isNone.eq_1, isNone.eq_2, o_isN.eq_1, o_notN.eq_1, o_isB.eq_1, o_isB.eq_2, o_notB.eq_1, o_notB.eq_2, o_neg.eq_1, o_neg.eq_2, kOf.eq_1, kOf.eq_2, c_e.eq_1, c_and.eq_1, c_or.eq_1, c_not.eq_1, e_and.eq_1, e_or.eq_1, e_not.eq_1, e_if.eq_1, e_ch.eq_1, a_nil.eq_1, a_cons.eq_1, isDraw.eq_1, isDraw.eq_2, a_draw.eq_1, e_tup.eq_1, listOf.eq_1, listOf.eq_2, f_op.eq_1, f_lst.eq_1, e_call.eq_1, oOf.eq_1, oOf.eq_2, o_ix.eq_1, o_ix.eq_2, o_ix.eq_3, iOf.eq_1, iOf.eq_2, p_none.eq_1, p_some.eq_1, o_sl.eq_1, o_sl.eq_2, o_sl.eq_3, e_sl.eq_1, o_len.eq_1, o_len.eq_2, o_len.eq_3, o_len.eq_4, o_abs.eq_1, o_abs.eq_2, o_int.eq_1, o_int.eq_2, o_int.eq_3, isTy.eq_1, isTy.eq_2, isTy.eq_3, isTy.eq_4, isTy.eq_5, isTy.eq_6, isTy.eq_7, o_isin.eq_1, o_tuple.eq_1, o_tuple.eq_2, o_tuple.eq_3, seqQ.eq_1, seqQ.eq_2, seqQ.eq_3, f_list.eq_1, someOf.eq_1, someOf.eq_2, o_sum.eq_1, o_maxS.eq_1, o_minS.eq_1, o_all.eq_1, o_all.eq_2, o_any.eq_1, o_any.eq_2, o_max.eq_1, o_max.eq_2, o_min.eq_1, o_min.eq_2, o_min3.eq_1, o_min3.eq_2, e_op3.eq_1, o_repr.eq_1, i_seq.eq_1, nOf.eq_1, nOf.eq_2, i_rng1.eq_1, i_rng2.eq_1, i_rngD.eq_1, rgOf.eq_1, rgOf.eq_2, i_rngV.eq_1, i_num.eq_1, i_zip2.eq_1, i_zip.eq_1, i_enum.eq_1, g_n.eq_1, g_nil.eq_1, g_nil.eq_2, g_cons.eq_1, g_cons.eq_2, g_tup.eq_1, g_tup.eq_2, wipeE.eq_1, wipeE.eq_2, f_lc.eq_1, c_yes.eq_1, s_nil.eq_1, s_seq.eq_1, s_brk.eq_1, s_cnt.eq_1, s_set.eq_1, s_own.eq_1, s_rng.eq_1, s_unp.eq_1, s_par.eq_1, s_if.eq_1, s_ret.eq_1, s_ex.eq_1, frzA.eq_1, frzA.eq_2, frzA.eq_3, frz.eq_1, s_frz.eq_1, ownOf.eq_1, ownOf.eq_2, s_app.eq_1, s_insert.eq_1, o_rev.eq_1, o_rev.eq_2, nstOf.eq_1, nstOf.eq_2, b_nix.eq_1, s_sub2.eq_1, s_app2.eq_1, lcN.eq_1, lcN.eq_2, s_nst.eq_1, s_sub.eq_1, popQ.eq_1, s_pop.eq_1, s_popS.eq_1, tup2.eq_1, tup2.eq_2, sub1.eq_1, s_swp.eq_1, sub2.eq_1, s_swp2.eq_1, f_lrng.eq_1, s_for.eq_1, isScr.eq_1, isScr.eq_2, s_draw.eq_1, s_raise.eq_1, strQ.eq_1, strQ.eq_2, intQ.eq_1, intQ.eq_2, s_raiseR.eq_1, only.eq_1, exM.eq_1, exM.eq_2, exM.eq_3, s_tryM.eq_1, exMR.eq_1, exMR.eq_2, exMR.eq_3, s_tryMR.eq_1, F_angle.eq_1, startL.eq_1, startL.eq_2, startL.eq_3, start.eq_1, LN, List.set_cons_zero, List.set_cons_succ, List.getElem?_cons_zero, List.getElem?_cons_succ, List.length_cons, List.length_nil, List.cons_append, List.nil_append, List.replicate, if_true, if_false, Bool.false_eq_true, Bool.true_and, Bool.false_and, Bool.and_true, Bool.and_false, Bool.not_true, Bool.not_false, Bool.or_true, Bool.or_false, Bool.true_or, Bool.false_or, true_and, and_true, ite_self, reduceCtorEq, Int.reduceBEq, decide_true, decide_false, at_0, at_1, at_2, ix_rD0, ix_rD1, Int.zero_add])
  | `(tactic| dsimp! $loc:location) => `(tactic| simp -implicitDefEqProofs only [e_c.eq_1, vOf.eq_1, vOf.eq_2, bOf.eq_1, bOf.eq_2, bOf.eq_3, e_v.eq_1, b_v.eq_1, e_f.eq_1, e_op.eq_1, e_un.eq_1, o_add.eq_1, o_add.eq_2, o_add.eq_3, o_add.eq_4, o_add.eq_5, o_sub.eq_1, o_sub.eq_2, o_mul.eq_1, o_mul.eq_2, o_mul.eq_3, o_mul.eq_4, o_fdiv.eq_1, o_fdiv.eq_2, o_mod.eq_1, o_mod.eq_2, o_lt.eq_1, o_lt.eq_2, o_le.eq_1, o_le.eq_2, o_gt.eq_1, o_gt.eq_2, o_ge.eq_1, o_ge.eq_2, o_eq_int, o_ne_int, isNone.eq_1, isNone.eq_2, o_isN.eq_1, o_notN.eq_1, o_isB.eq_1, o_isB.eq_2, o_notB.eq_1, o_notB.eq_2, o_neg.eq_1, o_neg.eq_2, kOf.eq_1, kOf.eq_2, c_e.eq_1, c_and.eq_1, c_or.eq_1, c_not.eq_1, e_and.eq_1, e_or.eq_1, e_not.eq_1, e_if.eq_1, e_ch.eq_1, a_nil.eq_1, a_cons.eq_1, isDraw.eq_1, isDraw.eq_2, a_draw.eq_1, e_tup.eq_1, listOf.eq_1, listOf.eq_2, f_op.eq_1, f_lst.eq_1, e_call.eq_1, oOf.eq_1, oOf.eq_2, o_ix.eq_1, o_ix.eq_2, o_ix.eq_3, iOf.eq_1, iOf.eq_2, p_none.eq_1, p_some.eq_1, o_sl.eq_1, o_sl.eq_2, o_sl.eq_3, e_sl.eq_1, o_len.eq_1, o_len.eq_2, o_len.eq_3, o_len.eq_4, o_abs.eq_1, o_abs.eq_2, o_int.eq_1, o_int.eq_2, o_int.eq_3, isTy.eq_1, isTy.eq_2, isTy.eq_3, isTy.eq_4, isTy.eq_5, isTy.eq_6, isTy.eq_7, o_isin.eq_1, o_tuple.eq_1, o_tuple.eq_2, o_tuple.eq_3, seqQ.eq_1, seqQ.eq_2, seqQ.eq_3, f_list.eq_1, someOf.eq_1, someOf.eq_2, o_sum.eq_1, o_maxS.eq_1, o_minS.eq_1, o_all.eq_1, o_all.eq_2, o_any.eq_1, o_any.eq_2, o_max.eq_1, o_max.eq_2, o_min.eq_1, o_min.eq_2, o_min3.eq_1, o_min3.eq_2, e_op3.eq_1, o_repr.eq_1, i_seq.eq_1, nOf.eq_1, nOf.eq_2, i_rng1.eq_1, i_rng2.eq_1, i_rngD.eq_1, rgOf.eq_1, rgOf.eq_2, i_rngV.eq_1, i_num.eq_1, i_zip2.eq_1, i_zip.eq_1, i_enum.eq_1, g_n.eq_1, g_nil.eq_1, g_nil.eq_2, g_cons.eq_1, g_cons.eq_2, g_tup.eq_1, g_tup.eq_2, wipeE.eq_1, wipeE.eq_2, f_lc.eq_1, c_yes.eq_1, s_nil.eq_1, s_seq.eq_1, s_brk.eq_1, s_cnt.eq_1, s_set.eq_1, s_own.eq_1, s_rng.eq_1, s_unp.eq_1, s_par.eq_1, s_if.eq_1, s_ret.eq_1, s_ex.eq_1, frzA.eq_1, frzA.eq_2, frzA.eq_3, frz.eq_1, s_frz.eq_1, ownOf.eq_1, ownOf.eq_2, s_app.eq_1, s_insert.eq_1, o_rev.eq_1, o_rev.eq_2, nstOf.eq_1, nstOf.eq_2, b_nix.eq_1, s_sub2.eq_1, s_app2.eq_1, lcN.eq_1, lcN.eq_2, s_nst.eq_1, s_sub.eq_1, popQ.eq_1, s_pop.eq_1, s_popS.eq_1, tup2.eq_1, tup2.eq_2, sub1.eq_1, s_swp.eq_1, sub2.eq_1, s_swp2.eq_1, f_lrng.eq_1, s_for.eq_1, isScr.eq_1, isScr.eq_2, s_draw.eq_1, s_raise.eq_1, strQ.eq_1, strQ.eq_2, intQ.eq_1, intQ.eq_2, s_raiseR.eq_1, only.eq_1, exM.eq_1, exM.eq_2, exM.eq_3, s_tryM.eq_1, exMR.eq_1, exMR.eq_2, exMR.eq_3, s_tryMR.eq_1, F_angle.eq_1, startL.eq_1, startL.eq_2, startL.eq_3, start.eq_1, LN, List.set_cons_zero, List.set_cons_succ, List.getElem?_cons_zero, List.getElem?_cons_succ, List.length_cons, List.length_nil, List.cons_append, List.nil_append, List.replicate, if_true, if_false, Bool.false_eq_true, Bool.true_and, Bool.false_and, Bool.and_true, Bool.and_false, Bool.not_true, Bool.not_false, Bool.or_true, Bool.or_false, Bool.true_or, Bool.false_or, true_and, and_true, ite_self, reduceCtorEq, Int.reduceBEq, decide_true, decide_false, at_0, at_1, at_2, ix_rD0, ix_rD1, Int.zero_add] $loc:location)
  | `(tactic| dsimp! [$ls,*]) => `(tactic| simp -implicitDefEqProofs only [$ls,*, e_c.eq_1, vOf.eq_1, vOf.eq_2, bOf.eq_1, bOf.eq_2, bOf.eq_3, e_v.eq_1, b_v.eq_1, e_f.eq_1, e_op.eq_1, e_un.eq_1, o_add.eq_1, o_add.eq_2, o_add.eq_3, o_add.eq_4, o_add.eq_5, o_sub.eq_1, o_sub.eq_2, o_mul.eq_1, o_mul.eq_2, o_mul.eq_3, o_mul.eq_4, o_fdiv.eq_1, o_fdiv.eq_2, o_mod.eq_1, o_mod.eq_2, o_lt.eq_1, o_lt.eq_2, o_le.eq_1, o_le.eq_2, o_gt.eq_1, o_gt.eq_2, o_ge.eq_1, o_ge.eq_2, o_eq_int, o_ne_int, isNone.eq_1, isNone.eq_2, o_isN.eq_1, o_notN.eq_1, o_isB.eq_1, o_isB.eq_2, o_notB.eq_1, o_notB.eq_2, o_neg.eq_1, o_neg.eq_2, kOf.eq_1, kOf.eq_2, c_e.eq_1, c_and.eq_1, c_or.eq_1, c_not.eq_1, e_and.eq_1, e_or.eq_1, e_not.eq_1, e_if.eq_1, e_ch.eq_1, a_nil.eq_1, a_cons.eq_1, isDraw.eq_1, isDraw.eq_2, a_draw.eq_1, e_tup.eq_1, listOf.eq_1, listOf.eq_2, f_op.eq_1, f_lst.eq_1, e_call.eq_1, oOf.eq_1, oOf.eq_2, o_ix.eq_1, o_ix.eq_2, o_ix.eq_3, iOf.eq_1, iOf.eq_2, p_none.eq_1, p_some.eq_1, o_sl.eq_1, o_sl.eq_2, o_sl.eq_3, e_sl.eq_1, o_len.eq_1, o_len.eq_2, o_len.eq_3, o_len.eq_4, o_abs.eq_1, o_abs.eq_2, o_int.eq_1, o_int.eq_2, o_int.eq_3, isTy.eq_1, isTy.eq_2, isTy.eq_3, isTy.eq_4, isTy.eq_5, isTy.eq_6, isTy.eq_7, o_isin.eq_1, o_tuple.eq_1, o_tuple.eq_2, o_tuple.eq_3, seqQ.eq_1, seqQ.eq_2, seqQ.eq_3, f_list.eq_1, someOf.eq_1, someOf.eq_2, o_sum.eq_1, o_maxS.eq_1, o_minS.eq_1, o_all.eq_1, o_all.eq_2, o_any.eq_1, o_any.eq_2, o_max.eq_1, o_max.eq_2, o_min.eq_1, o_min.eq_2, o_min3.eq_1, o_min3.eq_2, e_op3.eq_1, o_repr.eq_1, i_seq.eq_1, nOf.eq_1, nOf.eq_2, i_rng1.eq_1, i_rng2.eq_1, i_rngD.eq_1, rgOf.eq_1, rgOf.eq_2, i_rngV.eq_1, i_num.eq_1, i_zip2.eq_1, i_zip.eq_1, i_enum.eq_1, g_n.eq_1, g_nil.eq_1, g_nil.eq_2, g_cons.eq_1, g_cons.eq_2, g_tup.eq_1, g_tup.eq_2, wipeE.eq_1, wipeE.eq_2, f_lc.eq_1, c_yes.eq_1, s_nil.eq_1, s_seq.eq_1, s_brk.eq_1, s_cnt.eq_1, s_set.eq_1, s_own.eq_1, s_rng.eq_1, s_unp.eq_1, s_par.eq_1, s_if.eq_1, s_ret.eq_1, s_ex.eq_1, frzA.eq_1, frzA.eq_2, frzA.eq_3, frz.eq_1, s_frz.eq_1, ownOf.eq_1, ownOf.eq_2, s_app.eq_1, s_insert.eq_1, o_rev.eq_1, o_rev.eq_2, nstOf.eq_1, nstOf.eq_2, b_nix.eq_1, s_sub2.eq_1, s_app2.eq_1, lcN.eq_1, lcN.eq_2, s_nst.eq_1, s_sub.eq_1, popQ.eq_1, s_pop.eq_1, s_popS.eq_1, tup2.eq_1, tup2.eq_2, sub1.eq_1, s_swp.eq_1, sub2.eq_1, s_swp2.eq_1, f_lrng.eq_1, s_for.eq_1, isScr.eq_1, isScr.eq_2, s_draw.eq_1, s_raise.eq_1, strQ.eq_1, strQ.eq_2, intQ.eq_1, intQ.eq_2, s_raiseR.eq_1, only.eq_1, exM.eq_1, exM.eq_2, exM.eq_3, s_tryM.eq_1, exMR.eq_1, exMR.eq_2, exMR.eq_3, s_tryMR.eq_1, F_angle.eq_1, startL.eq_1, startL.eq_2, startL.eq_3, start.eq_1, LN, List.set_cons_zero, List.set_cons_succ, List.getElem?_cons_zero, List.getElem?_cons_succ, List.length_cons, List.length_nil, List.cons_append, List.nil_append, List.replicate, if_true, if_false, Bool.false_eq_true, Bool.true_and, Bool.false_and, Bool.and_true, Bool.and_false, Bool.not_true, Bool.not_false, Bool.or_true, Bool.or_false, Bool.true_or, Bool.false_or, true_and, and_true, ite_self, reduceCtorEq, Int.reduceBEq, decide_true, decide_false, at_0, at_1, at_2, ix_rD0, ix_rD1, Int.zero_add])
  | `(tactic| dsimp! [$ls,*] $loc:location) => `(tactic| simp -implicitDefEqProofs only [$ls,*, e_c.eq_1, vOf.eq_1, vOf.eq_2, bOf.eq_1, bOf.eq_2, bOf.eq_3, e_v.eq_1, b_v.eq_1, e_f.eq_1, e_op.eq_1, e_un.eq_1, o_add.eq_1, o_add.eq_2, o_add.eq_3, o_add.eq_4, o_add.eq_5, o_sub.eq_1, o_sub.eq_2, o_mul.eq_1, o_mul.eq_2, o_mul.eq_3, o_mul.eq_4, o_fdiv.eq_1, o_fdiv.eq_2, o_mod.eq_1, o_mod.eq_2, o_lt.eq_1, o_lt.eq_2, o_le.eq_1, o_le.eq_2, o_gt.eq_1, o_gt.eq_2, o_ge.eq_1, o_ge.eq_2, o_eq_int, o_ne_int, isNone.eq_1, isNone.eq_2, o_isN.eq_1, o_notN.eq_1, o_isB.eq_1, o_isB.eq_2, o_notB.eq_1, o_notB.eq_2, o_neg.eq_1, o_neg.eq_2, kOf.eq_1, kOf.eq_2, c_e.eq_1, c_and.eq_1, c_or.eq_1, c_not.eq_1, e_and.eq_1, e_or.eq_1, e_not.eq_1, e_if.eq_1, e_ch.eq_1, a_nil.eq_1, a_cons.eq_1, isDraw.eq_1, isDraw.eq_2, a_draw.eq_1, e_tup.eq_1, listOf.eq_1, listOf.eq_2, f_op.eq_1, f_lst.eq_1, e_call.eq_1, oOf.eq_1, oOf.eq_2, o_ix.eq_1, o_ix.eq_2, o_ix.eq_3, iOf.eq_1, iOf.eq_2, p_none.eq_1, p_some.eq_1, o_sl.eq_1, o_sl.eq_2, o_sl.eq_3, e_sl.eq_1, o_len.eq_1, o_len.eq_2, o_len.eq_3, o_len.eq_4, o_abs.eq_1, o_abs.eq_2, o_int.eq_1, o_int.eq_2, o_int.eq_3, isTy.eq_1, isTy.eq_2, isTy.eq_3, isTy.eq_4, isTy.eq_5, isTy.eq_6, isTy.eq_7, o_isin.eq_1, o_tuple.eq_1, o_tuple.eq_2, o_tuple.eq_3, seqQ.eq_1, seqQ.eq_2, seqQ.eq_3, f_list.eq_1, someOf.eq_1, someOf.eq_2, o_sum.eq_1, o_maxS.eq_1, o_minS.eq_1, o_all.eq_1, o_all.eq_2, o_any.eq_1, o_any.eq_2, o_max.eq_1, o_max.eq_2, o_min.eq_1, o_min.eq_2, o_min3.eq_1, o_min3.eq_2, e_op3.eq_1, o_repr.eq_1, i_seq.eq_1, nOf.eq_1, nOf.eq_2, i_rng1.eq_1, i_rng2.eq_1, i_rngD.eq_1, rgOf.eq_1, rgOf.eq_2, i_rngV.eq_1, i_num.eq_1, i_zip2.eq_1, i_zip.eq_1, i_enum.eq_1, g_n.eq_1, g_nil.eq_1, g_nil.eq_2, g_cons.eq_1, g_cons.eq_2, g_tup.eq_1, g_tup.eq_2, wipeE.eq_1, wipeE.eq_2, f_lc.eq_1, c_yes.eq_1, s_nil.eq_1, s_seq.eq_1, s_brk.eq_1, s_cnt.eq_1, s_set.eq_1, s_own.eq_1, s_rng.eq_1, s_unp.eq_1, s_par.eq_1, s_if.eq_1, s_ret.eq_1, s_ex.eq_1, frzA.eq_1, frzA.eq_2, frzA.eq_3, frz.eq_1, s_frz.eq_1, ownOf.eq_1, ownOf.eq_2, s_app.eq_1, s_insert.eq_1, o_rev.eq_1, o_rev.eq_2, nstOf.eq_1, nstOf.eq_2, b_nix.eq_1, s_sub2.eq_1, s_app2.eq_1, lcN.eq_1, lcN.eq_2, s_nst.eq_1, s_sub.eq_1, popQ.eq_1, s_pop.eq_1, s_popS.eq_1, tup2.eq_1, tup2.eq_2, sub1.eq_1, s_swp.eq_1, sub2.eq_1, s_swp2.eq_1, f_lrng.eq_1, s_for.eq_1, isScr.eq_1, isScr.eq_2, s_draw.eq_1, s_raise.eq_1, strQ.eq_1, strQ.eq_2, intQ.eq_1, intQ.eq_2, s_raiseR.eq_1, only.eq_1, exM.eq_1, exM.eq_2, exM.eq_3, s_tryM.eq_1, exMR.eq_1, exMR.eq_2, exMR.eq_3, s_tryMR.eq_1, F_angle.eq_1, startL.eq_1, startL.eq_2, startL.eq_3, start.eq_1, LN, List.set_cons_zero, List.set_cons_succ, List.getElem?_cons_zero, List.getElem?_cons_succ, List.length_cons, List.length_nil, List.cons_append, List.nil_append, List.replicate, if_true, if_false, Bool.false_eq_true, Bool.true_and, Bool.false_and, Bool.and_true, Bool.and_false, Bool.not_true, Bool.not_false, Bool.or_true, Bool.or_false, Bool.true_or, Bool.false_or, true_and, and_true, ite_self, reduceCtorEq, Int.reduceBEq, decide_true, decide_false, at_0, at_1, at_2, ix_rD0, ix_rD1, Int.zero_add] $loc:location)
/-- a statement ahead, the rest kept under U -/
theorem seq_go {t u : uS} {K : Ends} {ρ : Env} (h : ∀ U : Env → Prop, (∀ ρ', u K ρ' → U ρ') → t { K with nx := U } ρ) : s_seq t u K ρ := h _ fun _ h => h
theorem lc_map {α : Type} {g : uG} {e : uE} {ρ : Env} {Q : List D → Prop} (enc f : α → D) : ∀ (l : List α) (acc : List D), (∀ a ∈ l, ∀ P : D → Prop, P (f a) → g (enc a) ρ (fun ρ' => e ρ' P noEx)) → Q (acc ++ l.map f) → lcL g c_yes e ρ Q (l.map enc) acc
  | [], acc, _, h => by simpa using h
  | a :: l, acc, he, h => by
    simp only [lcL, c_yes, if_true, List.map_cons]
    refine he a List.mem_cons_self _ (lc_map enc f l _ (fun a ha => he a (List.mem_cons_of_mem _ ha)) ?_)
    simpa using h
theorem lc_filt {α : Type} {g : uG} {c : uC} {e : uE} {ρ : Env} {Q : List D → Prop} (enc f : α → D) (p : α → Bool) : ∀ (l : List α) (acc : List D), (∀ a ∈ l, ∀ (P : D → Prop) (N : Prop), (p a = true → P (f a)) → (p a = false → N) → g (enc a) ρ (fun ρ' => c ρ' (fun k => if k = true then e ρ' P noEx else N) noEx)) →
    Q (acc ++ (l.filter p).map f) → lcL g c e ρ Q (l.map enc) acc
  | [], acc, _, h => by simpa using h
  | a :: l, acc, he, h => by
    simp only [lcL, List.map_cons]
    refine he a List.mem_cons_self _ _ (fun hp => ?_) (fun hp => ?_)
    · refine lc_filt enc f p l _ (fun a ha => he a (List.mem_cons_of_mem _ ha)) ?_
      simpa [List.filter_cons, hp] using h
    · refine lc_filt enc f p l _ (fun a ha => he a (List.mem_cons_of_mem _ ha)) ?_
      simpa [List.filter_cons, hp] using h
/-- for a in l, an invariant over what is behind -/
theorem for_pre {α : Type} {g : uG} {b : uS} {K : Ends} (enc : α → D) (I : List α → Env → Prop) (l : List α) {ρ : Env}
    (h : ∀ pre a post ρ (N : Env → Prop), l = pre ++ a :: post → I pre ρ → (∀ ρ', I (pre ++ [a]) ρ' → N ρ') → g (enc a) ρ (fun ρ' => b { K with nx := N, ct := N, bk := K.nx } ρ'))
    (h0 : I [] ρ) (he : ∀ ρ, I l ρ → K.nx ρ) : forL g b K (l.map enc) ρ := by
  suffices H : ∀ post pre ρ, l = pre ++ post → I pre ρ → forL g b K (post.map enc) ρ from H l [] ρ rfl h0
  intro post
  induction post with
  | nil =>
    intro pre ρ e hI
    rw [List.append_nil] at e
    subst e
    exact he ρ hI
  | cons a post ih =>
    intro pre ρ e hI
    simp only [List.map_cons, forL]
    exact h pre a post ρ _ e hI fun ρ' hI' => ih (pre ++ [a]) ρ' (by rw [e]; simp) hI'
theorem p_take {n : Int} {Q : D → Prop} {x : EX} (h0 : 0 < n) (h1 : n < 1000000000) (h : ∀ r : Int, 0 ≤ r → r < n → Q (.int r)) : cTake [.none, .int n] Q x := ⟨n, rfl, h0, h1, h⟩
theorem upTo0 (n : Nat) : upTo 0 n = (List.range n).map fun (k : Nat) => PyData.int (k : Int) := by
  rw [upTo_eq]
  refine List.map_congr_left fun k _ => by rw [Int.zero_add]
theorem pairUp_zip {α β : Type} (e1 : α → D) (e2 : β → D) : ∀ (l : List α) (m : List β), pairUp (l.map e1) (m.map e2) = (l.zip m).map fun p => .tuple [e1 p.1, e2 p.2]
  | [], _ => by simp [pairUp]
  | _ :: _, [] => by simp [pairUp]
  | a :: l, b :: m => by simp [pairUp, pairUp_zip e1 e2 l m]
theorem pairUp_num {α : Type} (enc : α → D) (l : List α) : pairUp (upTo 0 (l.map enc).length) (l.map enc) = (l.zipIdx).map fun p => .tuple [.int p.2, enc p.1] := by
  rw [upTo0, List.length_map, pairUp_zip, List.zipIdx_eq_zip_range', List.range_eq_range']
  generalize List.range' 0 l.length = r
  induction l generalizing r with
  | nil => simp
  | cons a l ih => cases r <;> simp [ih]
theorem if_split {c : uC} {t u : uS} {K : Ends} {ρ : Env} (b : Bool) (hc : ∀ Q : Bool → Prop, Q b → c ρ Q K.ex) (ht : b = true → t K ρ) (hu : b = false → u K ρ) : s_if c t u K ρ :=
  hc _ (by cases b <;> simp_all)
local macro_rules
  | `(tactic| simp_arith) => `(tactic| first | assumption | exact sz_zero | exact sz_one | (refine sz_add ?_ ?_ <;> simp_arith) | (refine sz_sub ?_ ?_ <;> simp_arith) | (refine sz_div ?_ ?_ <;> simp_arith) | (refine sz_mul ?_ ?_ <;> simp_arith) | (refine sz_neg ?_; simp_arith))

/-! Curves: what the least share of the first sort is. -/
abbrev RR := Rat × Rat
/-- what the slope m gains at a place -/
def clip (m : Rat) (p : RR) : Rat := if m * p.2 - p.1 ≤ 0 then 0 else m * p.2 - p.1
def clips (m : Rat) (l : List RR) : Rat := (l.map (clip m)).sum
/-- the line of slope m under the curve -/
def lineAt (l : List RR) (s m : Rat) : Rat := m * s - clips m l
theorem clip_nonneg (m : Rat) (p : RR) : 0 ≤ clip m p := by unfold clip; split <;> grind
theorem clips_cons (m : Rat) (p : RR) (l : List RR) : clips m (p :: l) = clip m p + clips m l := by simp [clips, sum_cons']
theorem clips_nonneg (m : Rat) : ∀ l : List RR, 0 ≤ clips m l
  | [] => by simp [clips]
  | p :: l => by
    rw [clips_cons]
    have := clip_nonneg m p
    have := clips_nonneg m l
    grind
/-- V is the curve's value at s -/
def Curve (l : List RR) (s V : Rat) : Prop := (∃ m, 0 ≤ m ∧ V = lineAt l s m) ∧ ∀ m, lineAt l s m ≤ V
theorem Curve.uniq {l : List RR} {s V W : Rat} (h : Curve l s V) (k : Curve l s W) : V = W := by
  obtain ⟨⟨m, _, hm⟩, h2⟩ := h
  obtain ⟨⟨m', _, hm'⟩, k2⟩ := k
  have := h2 m'
  have := k2 m
  grind
theorem clips_perm {l k : List RR} (h : l.Perm k) (m : Rat) : clips m l = clips m k := by
  induction h with
  | nil => rfl
  | cons p _ ih => rw [clips_cons, clips_cons, ih]
  | swap p q l => rw [clips_cons, clips_cons, clips_cons, clips_cons]; grind
  | trans _ _ h1 h2 => rw [h1, h2]
theorem Curve.perm {l k : List RR} (h : l.Perm k) {s V : Rat} (c : Curve l s V) : Curve k s V := by
  have e : ∀ m, lineAt k s m = lineAt l s m := fun m => by unfold lineAt; rw [clips_perm h]
  refine ⟨?_, fun m => by rw [e]; exact c.2 m⟩
  obtain ⟨m, h0, hm⟩ := c.1
  exact ⟨m, h0, by rw [e]; exact hm⟩
/-- p stands ahead of q -/
def ahead (p q : RR) : Prop := p.1 * q.2 ≤ q.1 * p.2
def lsum (l : List RR) : Rat := (l.map (·.2)).sum
theorem lsum_cons (p : RR) (l : List RR) : lsum (p :: l) = p.2 + lsum l := by simp [lsum, sum_cons']
theorem lsum_nonneg : ∀ {l : List RR}, (∀ p ∈ l, 0 ≤ p.1 ∧ 0 ≤ p.2) → 0 ≤ lsum l
  | [], _ => by simp [lsum]
  | p :: l, h => by
    rw [lsum_cons]
    have := h p List.mem_cons_self
    have := lsum_nonneg (l := l) fun q hq => h q (List.mem_cons_of_mem _ hq)
    grind
def rmin (a b : Rat) : Rat := if b < a then b else a
def fill : List RR → Rat → Rat
  | [], _ => 0
  | p :: l, s => if p.2 ≠ 0 ∧ s ≠ 0 then p.1 * (rmin p.2 s / p.2) + fill l (s - rmin p.2 s) else fill l s
theorem fill_zero : ∀ l, fill l 0 = 0
  | [] => rfl
  | p :: l => by simp [fill, fill_zero l]
theorem clip_zero {m : Rat} {p : RR} (h : m * p.2 ≤ p.1) : clip m p = 0 := by unfold clip; rw [if_pos (by grind)]
theorem clip_pos {m : Rat} {p : RR} (h : p.1 ≤ m * p.2) : clip m p = m * p.2 - p.1 := by unfold clip; split <;> grind
theorem clips_zero {m : Rat} : ∀ {l : List RR}, (∀ p ∈ l, m * p.2 ≤ p.1) → clips m l = 0
  | [], _ => by simp [clips]
  | p :: l, h => by rw [clips_cons, clip_zero (h p List.mem_cons_self), clips_zero fun q hq => h q (List.mem_cons_of_mem _ hq)]; grind
theorem div_mul_le {a b c : Rat} (hb : 0 < b) (h : a * c ≤ d * b) : a / b * c ≤ d := by
  have e : a / b * c * b = a * c := by grind
  exact Rat.le_of_mul_le_mul_right (by rw [e]; exact h) hb
theorem le_div_mul {a b c : Rat} (hb : 0 < b) (h : d * b ≤ a * c) : d ≤ a / b * c := by
  have e : a / b * c * b = a * c := by grind
  exact Rat.le_of_mul_le_mul_right (by rw [e]; exact h) hb
theorem div_mul_self {a b : Rat} (hb : b ≠ 0) : a / b * b = a := by grind
theorem div_nonneg' {a b : Rat} (ha : 0 ≤ a) (hb : 0 < b) : 0 ≤ a / b := by
  have := le_div_mul (d := 0) (a := a) (c := 1) hb (by grind)
  grind
/-- below every line it is above -/
theorem fill_ge : ∀ {l : List RR}, (∀ p ∈ l, 0 ≤ p.1 ∧ 0 ≤ p.2) → ∀ {s : Rat}, 0 ≤ s → s ≤ lsum l → ∀ m, lineAt l s m ≤ fill l s
  | [], _, s, h0, h1, m => by
    have e : s = 0 := by simp [lsum] at h1; grind
    subst e
    simp [lineAt, clips, fill]
    grind
  | p :: l, hp, s, h0, h1, m => by
    have h := hp p List.mem_cons_self
    have hl := fun q hq => hp q (List.mem_cons_of_mem _ hq)
    rw [lsum_cons] at h1
    have ih := fun {s} => fill_ge (l := l) hl (s := s)
    unfold lineAt at ih ⊢
    rw [clips_cons]
    unfold fill
    split
    · rename_i hc
      have hb : 0 < p.2 := by grind
      have hs : 0 < s := by grind
      unfold rmin
      split
      · rename_i hlt
        have i0 := ih (s := 0) Rat.le_refl (lsum_nonneg hl) m
        have e0 : s - s = 0 := by grind
        rw [e0, fill_zero]
        have k1 : m * s - clip m p ≤ p.1 * (s / p.2) := by
          by_cases hm : m * p.2 ≤ p.1
          · rw [clip_zero hm]
            have : m * s * p.2 ≤ p.1 * s := by
              have := Rat.mul_le_mul_of_nonneg_right hm h0
              grind
            have e : p.1 * (s / p.2) = p.1 / p.2 * s := by grind
            rw [e]
            have := le_div_mul (d := m * s) hb this
            grind
          · rw [clip_pos (by grind)]
            have h1 : 0 ≤ (m * p.2 - p.1) * (p.2 - s) := Rat.mul_nonneg (by grind) (by grind)
            have e : p.1 * (s / p.2) = (p.1 * s) / p.2 * 1 := by grind
            rw [e]
            exact le_div_mul hb (by grind)
        have := clips_nonneg m l
        grind
      · rename_i hge
        have i0 := ih (s := s - p.2) (by grind) (by grind) m
        have e1 : p.1 * (p.2 / p.2) = p.1 := by grind
        rw [e1]
        have k1 : m * p.2 - clip m p ≤ p.1 := by
          by_cases hm : m * p.2 ≤ p.1
          · rw [clip_zero hm]; grind
          · rw [clip_pos (by grind)]; grind
        grind
    · rename_i hc
      have k := clip_nonneg m p
      by_cases hs : s = 0
      · subst hs
        have := clips_nonneg m l
        rw [fill_zero]
        grind
      · have hb : p.2 = 0 := by grind
        have i0 := ih (s := s) h0 (by grind) m
        grind
/-- some line meets it -/
theorem fill_at : ∀ {l : List RR}, (∀ p ∈ l, 0 ≤ p.1 ∧ 0 ≤ p.2) → l.Pairwise ahead → ∀ {s : Rat}, 0 < s → s ≤ lsum l → ∃ m, 0 ≤ m ∧ fill l s = lineAt l s m ∧ ∀ p, (∀ q ∈ l, ahead p q) → p.1 ≤ m * p.2
  | [], _, _, s, h0, h1 => by simp [lsum] at h1; grind
  | p :: l, hp, hs, s, h0, h1 => by
    have h := hp p List.mem_cons_self
    have hl := fun q hq => hp q (List.mem_cons_of_mem _ hq)
    obtain ⟨hh, ht⟩ := List.pairwise_cons.mp hs
    rw [lsum_cons] at h1
    unfold fill
    unfold lineAt
    by_cases hb0 : p.2 = 0
    · rw [if_neg (by grind)]
      obtain ⟨m, m0, e, hm⟩ := fill_at hl ht h0 (by grind)
      refine ⟨m, m0, ?_, fun q hq => hm q fun r hr => hq r (List.mem_cons_of_mem _ hr)⟩
      rw [e, clips_cons, clip_zero (by rw [hb0, Rat.mul_zero]; exact h.1)]
      unfold lineAt
      grind
    · have hb : 0 < p.2 := by grind
      rw [if_pos (by grind)]
      unfold rmin
      by_cases hle : s ≤ p.2
      · refine ⟨p.1 / p.2, div_nonneg' h.1 hb, ?_, fun q hq => ?_⟩
        · have e2 : (if s < p.2 then s else p.2) = s := by split <;> grind
          rw [e2, show s - s = 0 by grind, fill_zero, clips_cons, clip_zero (by rw [div_mul_self hb0]; exact Rat.le_refl), clips_zero (fun q hq => ?_)]
          · grind
          · have := hh q hq
            unfold ahead at this
            exact div_mul_le hb this
        · have := hq p List.mem_cons_self
          unfold ahead at this
          exact le_div_mul hb this
      · rw [if_neg (by grind)]
        obtain ⟨m, m0, e, hm⟩ := fill_at hl ht (s := s - p.2) (by grind) (by grind)
        refine ⟨m, m0, ?_, fun q hq => hm q fun r hr => hq r (List.mem_cons_of_mem _ hr)⟩
        have := hm p hh
        rw [e, clips_cons, clip_pos this]
        unfold lineAt
        grind
theorem fill_curve {l : List RR} (hp : ∀ p ∈ l, 0 ≤ p.1 ∧ 0 ≤ p.2) (hs : l.Pairwise ahead) {s : Rat} (h0 : 0 ≤ s) (h1 : s ≤ lsum l) : Curve l s (fill l s) := by
  refine ⟨?_, fill_ge hp h0 h1⟩
  by_cases e : s = 0
  · subst e
    refine ⟨0, Rat.le_refl, ?_⟩
    rw [fill_zero]
    unfold lineAt
    rw [clips_zero (fun p h => by have := hp p h; grind)]
    grind
  · obtain ⟨m, m0, h, _⟩ := fill_at hp hs (s := s) (by grind) h1
    exact ⟨m, m0, h⟩
/-- two orders of the same places, the same curve -/
theorem lsum_perm {l k : List RR} (h : l.Perm k) : lsum k = lsum l := by
    unfold lsum
    induction h with
    | nil => rfl
    | cons p _ ih => simp only [List.map_cons, sum_cons', ih]
    | swap p q l => simp only [List.map_cons, sum_cons']; grind
    | trans _ _ h1 h2 => rw [h2, h1]
theorem fill_eq {l k : List RR} (h : l.Perm k) (hp : ∀ p ∈ l, 0 ≤ p.1 ∧ 0 ≤ p.2) (hl : l.Pairwise ahead) (hk : k.Pairwise ahead) {s : Rat} (h0 : 0 ≤ s) (h1 : s ≤ lsum l) : fill l s = fill k s := by
  have e := lsum_perm h
  exact ((fill_curve hp hl h0 h1).perm h).uniq (fill_curve (fun p hp' => hp p (h.mem_iff.mpr hp')) hk h0 (by rw [e]; exact h1))
/-- the corners' way -/
def vcurve : Rat → Rat → List RR → Rat → Rat
  | _, y, [], _ => y
  | x, y, p :: l, s => if p.2 = 0 then vcurve x y l s else if s ≤ x + p.2 then y + p.1 * ((s - x) / p.2) else vcurve (x + p.2) (y + p.1) l s
theorem vcurve_eq : ∀ {l : List RR}, (∀ p ∈ l, 0 ≤ p.1 ∧ 0 ≤ p.2) → ∀ {x y s : Rat}, x ≤ s → s ≤ x + lsum l → vcurve x y l s = y + fill l (s - x)
  | [], _, x, y, s, h0, h1 => by simp [vcurve, fill]; grind
  | p :: l, hp, x, y, s, h0, h1 => by
    have h := hp p List.mem_cons_self
    have hl := fun q hq => hp q (List.mem_cons_of_mem _ hq)
    rw [lsum_cons] at h1
    unfold vcurve fill
    by_cases hb : p.2 = 0
    · rw [if_pos hb, if_neg (by grind), vcurve_eq hl h0 (by grind)]
    · rw [if_neg hb]
      by_cases hx : s - x = 0
      · rw [if_pos (show s ≤ x + p.2 by grind), if_neg (show ¬ (p.2 ≠ 0 ∧ s - x ≠ 0) by grind), hx, fill_zero]
        grind
      · rw [if_pos (show p.2 ≠ 0 ∧ s - x ≠ 0 from ⟨hb, hx⟩)]
        unfold rmin
        by_cases hle : s ≤ x + p.2
        · rw [if_pos hle]
          have e2 : (if s - x < p.2 then s - x else p.2) = s - x := by split <;> grind
          rw [e2, show s - x - (s - x) = 0 by grind, fill_zero]
          grind
        · rw [if_neg hle, if_neg (show ¬ s - x < p.2 by grind), vcurve_eq hl (by grind) (by grind), show s - (x + p.2) = s - x - p.2 by grind]
          grind

/-! Cities, plainly. -/
abbrev ZZ := Int × Int
def sA (c : List ZZ) : Int := (c.map (·.1)).sum
def sB (c : List ZZ) : Int := (c.map (·.2)).sum
structure Plc (p : ZZ) : Prop where
  a0 : 0 ≤ p.1
  a1 : p.1 ≤ 1000000
  b0 : 0 ≤ p.2
  b1 : p.2 ≤ 1000000
  ab : 0 < p.1 + p.2
structure City (c : List ZZ) : Prop where
  lo : 1 ≤ c.length
  hi : c.length ≤ 30
  it : ∀ p ∈ c, Plc p
  sa : 0 < sA c
  sb : 0 < sB c
theorem sA_cons (p : ZZ) (c : List ZZ) : sA (p :: c) = p.1 + sA c := by simp [sA]
theorem sB_cons (p : ZZ) (c : List ZZ) : sB (p :: c) = p.2 + sB c := by simp [sB]
theorem sA_app (c d : List ZZ) : sA (c ++ d) = sA c + sA d := by simp [sA]
theorem sB_app (c d : List ZZ) : sB (c ++ d) = sB c + sB d := by simp [sB]
theorem sAB_nonneg : ∀ {c : List ZZ}, (∀ p ∈ c, Plc p) → 0 ≤ sA c ∧ 0 ≤ sB c ∧ sA c ≤ c.length * 1000000 ∧ sB c ≤ c.length * 1000000
  | [], _ => by simp [sA, sB]
  | p :: c, h => by
    have ⟨a0, a1, b0, b1, _⟩ := h p List.mem_cons_self
    have ⟨_, _, _, _⟩ := sAB_nonneg (c := c) fun q hq => h q (List.mem_cons_of_mem _ hq)
    rw [sA_cons, sB_cons, List.length_cons]
    omega
theorem City.big {c : List ZZ} (C : City c) : sA c ≤ 30000000 ∧ sB c ≤ 30000000 := by
  have ⟨_, _, _, _⟩ := sAB_nonneg C.it
  have := C.hi
  omega
/-- a place as shares -/
def shp (A B : Int) (p : ZZ) : RR := ((p.1 : Rat) / (A : Rat), (p.2 : Rat) / (B : Rat))
/-- p stands ahead of q, by numbers -/
def zahead (p q : ZZ) : Prop := p.1 * q.2 ≤ q.1 * p.2
theorem cast_pos {a : Int} (h : 0 < a) : (0 : Rat) < a := by exact_mod_cast h
theorem cast_nonneg {a : Int} (h : 0 ≤ a) : (0 : Rat) ≤ a := by exact_mod_cast h
theorem cast_le' {a b : Int} (h : a ≤ b) : (a : Rat) ≤ b := by exact_mod_cast h
theorem cast_add' (a b : Int) : ((a + b : Int) : Rat) = (a : Rat) + b := by exact_mod_cast rfl
theorem cast_mul' (a b : Int) : ((a * b : Int) : Rat) = (a : Rat) * b := by exact_mod_cast rfl
theorem mul_div_mul {a b c d : Rat} : a / b * (c / d) = a * c / (b * d) := by grind
theorem div_le_div' {a b c : Rat} (hc : 0 < c) (h : a ≤ b) : a / c ≤ b / c := by
  have : a / c * c ≤ b / c * c := by
    rw [div_mul_self (by grind), div_mul_self (by grind)]; exact h
  exact Rat.le_of_mul_le_mul_right this hc
theorem ahead_shp {A B : Int} (hA : 0 < A) (hB : 0 < B) {p q : ZZ} (h : zahead p q) : ahead (shp A B p) (shp A B q) := by
  have a := cast_pos hA
  have b := cast_pos hB
  have : ((p.1 * q.2 : Int) : Rat) ≤ ((q.1 * p.2 : Int) : Rat) := cast_le' h
  rw [cast_mul', cast_mul'] at this
  unfold ahead shp
  simp only [mul_div_mul]
  exact div_le_div' (Rat.mul_pos a b) this
theorem pairs_sorted {A B : Int} (hA : 0 < A) (hB : 0 < B) {c : List ZZ} (h : c.Pairwise zahead) : (c.map (shp A B)).Pairwise ahead := by
  rw [List.pairwise_map]
  exact h.imp fun h => ahead_shp hA hB h
theorem shp_nonneg {A B : Int} (hA : 0 < A) (hB : 0 < B) {c : List ZZ} (h : ∀ p ∈ c, Plc p) : ∀ p ∈ c.map (shp A B), 0 ≤ p.1 ∧ 0 ≤ p.2 := by
  intro p hp
  obtain ⟨q, hq, rfl⟩ := List.mem_map.mp hp
  have k := h q hq
  exact ⟨div_nonneg' (cast_nonneg k.a0) (cast_pos hA), div_nonneg' (cast_nonneg k.b0) (cast_pos hB)⟩
theorem lsum_shp (A B : Int) : ∀ c : List ZZ, lsum (c.map (shp A B)) = (sB c : Rat) / B
  | [] => by simp [lsum, sB]; grind
  | p :: c => by
    rw [List.map_cons, lsum_cons, lsum_shp A B c, sB_cons, cast_add']
    simp only [shp]
    grind
theorem zahead_trans {p q r : ZZ} (hp : Plc p) (hq : Plc q) (hr : Plc r) (h1 : zahead p q) (h2 : zahead q r) : zahead p r := by
  have := hp.a0; have := hp.b0; have := hq.a0; have := hq.b0; have := hr.a0; have := hr.b0; have := hq.ab
  unfold zahead at *
  by_cases hb : q.2 = 0
  · rw [hb, Int.mul_zero] at h1 h2
    have : r.2 = 0 := by
      have : 0 < q.1 := by omega
      have : q.1 * r.2 ≤ 0 := by simpa [hb] using h2
      by_cases hr0 : r.2 = 0
      · exact hr0
      · have : 0 < q.1 * r.2 := Int.mul_pos (by omega) (by omega)
        omega
    rw [this, Int.mul_zero]
    exact Int.mul_nonneg (by omega) (by omega)
  · have h3 := Int.mul_le_mul_of_nonneg_right h1 hr.b0
    have h4 := Int.mul_le_mul_of_nonneg_right h2 hp.b0
    have : p.1 * r.2 * q.2 ≤ r.1 * p.2 * q.2 := by
      have e1 : p.1 * q.2 * r.2 = p.1 * r.2 * q.2 := by rw [Int.mul_assoc, Int.mul_assoc, Int.mul_comm q.2]
      have e2 : q.1 * p.2 * r.2 = q.1 * r.2 * p.2 := by rw [Int.mul_assoc, Int.mul_assoc, Int.mul_comm p.2]
      have e3 : r.1 * q.2 * p.2 = r.1 * p.2 * q.2 := by rw [Int.mul_assoc, Int.mul_assoc, Int.mul_comm q.2]
      omega
    exact Int.le_of_mul_le_mul_right this (by omega)
theorem zahead_total (p q : ZZ) : zahead p q ∨ zahead q p := by unfold zahead; omega

/-! Sorting by inserting, and by swapping. -/
section
variable {α : Type} {R : α → α → Prop} [DecidableRel R]
def insAt (R : α → α → Prop) [DecidableRel R] (l : List α) (x : α) : List α := l.take (l.filter fun a => R a x).length ++ [x] ++ l.drop (l.filter fun a => R a x).length
theorem ins_perm (l : List α) (x : α) : (insAt R l x).Perm (x :: l) := by
  unfold insAt
  have h := List.take_append_drop (l.filter fun a => R a x).length l
  generalize l.take (l.filter fun a => R a x).length = u at h
  generalize l.drop (l.filter fun a => R a x).length = v at h
  subst h
  rw [List.append_assoc]
  exact List.perm_middle
theorem ins_sorted (S : α → Prop) (tr : ∀ a b c, S a → S b → S c → R a b → R b c → R a c) (tot : ∀ a b, R a b ∨ R b a) {x : α} (hx : S x) : ∀ l : List α, (∀ a ∈ l, S a) → l.Pairwise R → (insAt R l x).Pairwise R
  | [], _, _ => by simp [insAt]
  | a :: l, hS, h => by
    obtain ⟨h1, h2⟩ := List.pairwise_cons.mp h
    have hl := fun b hb => hS b (List.mem_cons_of_mem _ hb)
    have ha := hS a List.mem_cons_self
    by_cases hr : R a x
    · have e : insAt R (a :: l) x = a :: insAt R l x := by simp [insAt, List.filter_cons, hr]
      rw [e, List.pairwise_cons]
      refine ⟨fun b hb => ?_, ins_sorted S tr tot hx l hl h2⟩
      have := (ins_perm (R := R) l x).mem_iff.mp hb
      rcases List.mem_cons.mp this with rfl | this
      · exact hr
      · exact h1 b this
    · have hx1 : R x a := (tot a x).resolve_left hr
      have e0 : (a :: l).filter (fun b => R b x) = [] := by
        rw [List.filter_eq_nil_iff]
        intro b hb
        rcases List.mem_cons.mp hb with rfl | hb
        · simpa using hr
        · simp only [decide_eq_true_eq]
          exact fun hbx => hr (tr a b x ha (hl b hb) hx (h1 b hb) hbx)
      have e : insAt R (a :: l) x = x :: a :: l := by unfold insAt; rw [e0]; rfl
      rw [e, List.pairwise_cons]
      refine ⟨fun b hb => ?_, h⟩
      rcases List.mem_cons.mp hb with rfl | hb
      · exact hx1
      · exact tr x a b hx ha (hl b hb) hx1 (h1 b hb)
/-- one pass of swaps -/
def bub (R : α → α → Prop) [DecidableRel R] : α → List α → List α
  | a, [] => [a]
  | a, b :: l => if R a b then a :: bub R b l else b :: bub R a l
theorem bub_len : ∀ (l : List α) (a : α), (bub R a l).length = l.length + 1
  | [], _ => rfl
  | b :: l, a => by unfold bub; split <;> simp [bub_len l]
theorem bub_perm : ∀ (l : List α) (a : α), (bub R a l).Perm (a :: l)
  | [], _ => .refl _
  | b :: l, a => by
    unfold bub
    split
    · exact (bub_perm l b).cons a
    · exact ((bub_perm l a).cons b).trans (.swap a b l)
theorem bub_sorted : ∀ (l : List α) (a : α), (a :: l).Pairwise R → bub R a l = a :: l
  | [], _, _ => rfl
  | b :: l, a, h => by
    obtain ⟨h1, h2⟩ := List.pairwise_cons.mp h
    unfold bub
    rw [if_pos (h1 b List.mem_cons_self), bub_sorted l b h2]
theorem bub_max (S : α → Prop) (tr : ∀ a b c, S a → S b → S c → R a b → R b c → R a c) (tot : ∀ a b, R a b ∨ R b a) (v : List α) (hv : v.Pairwise R) : ∀ (u : List α) (a : α), (∀ x ∈ a :: u, S x ∧ ∀ y ∈ v, R x y) →
    ∃ u' m, bub R a (u ++ v) = u' ++ m :: v ∧ (u' ++ [m]).Perm (a :: u) ∧ ∀ x ∈ u', R x m
  | [], a, h => ⟨[], a, bub_sorted v a (List.pairwise_cons.mpr ⟨(h a List.mem_cons_self).2, hv⟩), .refl _, fun _ h => nomatch h⟩
  | b :: u, a, h => by
    have ha := h a List.mem_cons_self
    have hb := h b (List.mem_cons_of_mem _ List.mem_cons_self)
    have hu : ∀ x ∈ u, S x ∧ ∀ y ∈ v, R x y := fun x hx => h x (List.mem_cons_of_mem _ (List.mem_cons_of_mem _ hx))
    have refl : ∀ x, R x x := fun x => (tot x x).elim id id
    have top : ∀ {c : α} {w u' : List α} {m : α}, (∀ x ∈ c :: w, S x) → (u' ++ [m]).Perm (c :: w) → (∀ x ∈ u', R x m) → S m ∧ R c m := by
      intro c w u' m hS hp hm
      refine ⟨hS m (hp.mem_iff.mp (by simp)), ?_⟩
      have : c ∈ u' ++ [m] := hp.mem_iff.mpr List.mem_cons_self
      rcases List.mem_append.mp this with h | h
      · exact hm c h
      · rw [List.mem_singleton.mp h]; exact refl m
    rw [List.cons_append]
    unfold bub
    split
    · rename_i hr
      have hS : ∀ x ∈ b :: u, S x ∧ ∀ y ∈ v, R x y := fun x hx => h x (List.mem_cons_of_mem _ hx)
      obtain ⟨u', m, e, hp, hm⟩ := bub_max S tr tot v hv u b hS
      obtain ⟨k1, k2⟩ := top (fun x hx => (hS x hx).1) hp hm
      refine ⟨a :: u', m, by rw [e]; rfl, hp.cons a, fun x hx => ?_⟩
      rcases List.mem_cons.mp hx with rfl | hx
      · exact tr _ b m ha.1 hb.1 k1 hr k2
      · exact hm x hx
    · rename_i hr
      have hS : ∀ x ∈ a :: u, S x ∧ ∀ y ∈ v, R x y := fun x hx => by
        rcases List.mem_cons.mp hx with rfl | hx
        · exact ha
        · exact hu x hx
      obtain ⟨u', m, e, hp, hm⟩ := bub_max S tr tot v hv u a hS
      obtain ⟨k1, k2⟩ := top (fun x hx => (hS x hx).1) hp hm
      refine ⟨b :: u', m, by rw [e]; rfl, (hp.cons b).trans (.swap a b u), fun x hx => ?_⟩
      rcases List.mem_cons.mp hx with rfl | hx
      · exact tr _ a m hb.1 ha.1 k1 ((tot a x).resolve_left hr) k2
      · exact hm x hx
/-- k passes done: what is sorted at the end -/
structure Bub (R : α → α → Prop) (c l : List α) (k : Nat) : Prop where
  perm : l.Perm c
  parts : ∃ u v, l = u ++ v ∧ v.Pairwise R ∧ (∀ x ∈ u, ∀ y ∈ v, R x y) ∧ (u = [] ∨ k ≤ v.length)
theorem Bub.step (S : α → Prop) (tr : ∀ a b c, S a → S b → S c → R a b → R b c → R a c) (tot : ∀ a b, R a b ∨ R b a) {c : List α} (hS : ∀ x ∈ c, S x) {a : α} {l : List α} {k : Nat} (B : Bub R c (a :: l) k) : Bub R c (bub R a l) (k + 1) := by
  obtain ⟨u, v, e, hv, huv, hk⟩ := B.parts
  refine ⟨(bub_perm l a).trans B.perm, ?_⟩
  match u, e, huv, hk with
  | [], e, _, _ =>
    rw [List.nil_append] at e
    subst e
    exact ⟨[], a :: l, by rw [bub_sorted l a hv]; rfl, hv, (fun _ h => nomatch h), .inl rfl⟩
  | b :: u, e, huv, hk =>
    rw [List.cons_append] at e
    obtain ⟨rfl, rfl⟩ := List.cons.inj e
    have hSu : ∀ x ∈ a :: u, S x := fun x hx => hS x (B.perm.mem_iff.mp (by
      rcases List.mem_cons.mp hx with rfl | hx
      · exact List.mem_cons_self
      · exact List.mem_cons_of_mem _ (List.mem_append_left _ hx)))
    obtain ⟨u', m, e, hp, hm⟩ := bub_max S tr tot v hv u a fun x hx => ⟨hSu x hx, huv x hx⟩
    have hmem : ∀ x ∈ u' ++ [m], x ∈ a :: u := fun x hx => hp.mem_iff.mp hx
    refine ⟨u', m :: v, e, List.pairwise_cons.mpr ⟨fun y hy => huv m (hmem m (by simp)) y hy, hv⟩, fun x hx y hy => ?_, .inr ?_⟩
    · rcases List.mem_cons.mp hy with rfl | hy
      · exact hm x hx
      · exact huv x (hmem x (by simp [hx])) y hy
    · rcases hk with hk | hk
      · cases hk
      · simpa using hk
theorem Bub.sorted {c l : List α} {k : Nat} (B : Bub R c l k) (hk : c.length ≤ k) : l.Pairwise R := by
  obtain ⟨u, v, e, hv, huv, hu⟩ := B.parts
  have hl := B.perm.length_eq
  have : u = [] := by
    rcases hu with h | h
    · exact h
    · rw [e, List.length_append] at hl
      exact List.eq_nil_of_length_eq_zero (by omega)
  subst this
  rw [e]; exact hv
end
instance (p q : ZZ) : Decidable (zahead p q) := by unfold zahead; exact inferInstance
instance : DecidableRel zahead := fun _ _ => inferInstance
def gz (c : List ZZ) (i : Nat) : ZZ := c.getD i (0, 0)
theorem gz_lt {c : List ZZ} {i : Nat} (h : i < c.length) : c[i]? = some (gz c i) := by
  unfold gz
  rw [List.getD_eq_getElem?_getD, List.getElem?_eq_getElem h]; rfl
theorem gz_mem {c : List ZZ} {i : Nat} (h : i < c.length) : gz c i ∈ c := List.mem_of_getElem? (gz_lt h)
theorem map_gz (c : List ZZ) : (List.range c.length).map (gz c) = c := by
  apply List.ext_getElem?
  intro i
  rw [List.getElem?_map]
  by_cases h : i < c.length
  · rw [List.getElem?_range h, gz_lt h]; rfl
  · rw [List.getElem?_eq_none (by simpa using h), List.getElem?_eq_none (by simpa using h)]; rfl
/-- an order of the places -/
structure Ord (c : List ZZ) (o : List Nat) : Prop where
  perm : o.Perm (List.range c.length)
  sorted : o.Pairwise fun i j => zahead (gz c i) (gz c j)
theorem Ord.lt {c : List ZZ} {o : List Nat} (O : Ord c o) {i : Nat} (h : i ∈ o) : i < c.length := by simpa using O.perm.mem_iff.mp h
theorem Ord.places {c : List ZZ} {o : List Nat} (O : Ord c o) : (o.map (gz c)).Perm c := by
  have := O.perm.map (gz c)
  rwa [map_gz] at this
theorem Ord.psorted {c : List ZZ} {o : List Nat} (O : Ord c o) : (o.map (gz c)).Pairwise zahead := by
  rw [List.pairwise_map]; exact O.sorted
theorem zip_at {α : Type} {l : List α} {pre : List (α × Nat)} {a : α × Nat} {post : List (α × Nat)} (h : l.zipIdx = pre ++ a :: post) : a.2 = pre.length ∧ l[pre.length]? = some a.1 := by
  have : (l.zipIdx)[pre.length]? = some a := by rw [h]; simp
  rw [List.getElem?_zipIdx] at this
  cases e : l[pre.length]? with
  | none => rw [e] at this; cases this
  | some b =>
    rw [e] at this
    simp at this
    subst this
    exact ⟨rfl, rfl⟩
theorem sA_perm {c d : List ZZ} (h : c.Perm d) : sA c = sA d := by
  unfold sA
  induction h with
  | nil => rfl
  | cons p _ ih => simp only [List.map_cons, List.sum_cons, ih]
  | swap p q l => simp only [List.map_cons, List.sum_cons]; omega
  | trans _ _ h1 h2 => rw [h1, h2]
theorem sB_perm {c d : List ZZ} (h : c.Perm d) : sB c = sB d := by
  unfold sB
  induction h with
  | nil => rfl
  | cons p _ ih => simp only [List.map_cons, List.sum_cons, ih]
  | swap p q l => simp only [List.map_cons, List.sum_cons]; omega
  | trans _ _ h1 h2 => rw [h1, h2]
theorem City.perm {c d : List ZZ} (C : City c) (h : c.Perm d) : City d :=
  ⟨by rw [← h.length_eq]; exact C.lo, by rw [← h.length_eq]; exact C.hi, fun p hp => C.it p (h.mem_iff.mpr hp), by rw [← sA_perm h]; exact C.sa, by rw [← sB_perm h]; exact C.sb⟩
/-- the places in order -/
def csort (c : List ZZ) : List ZZ := c.foldr (fun p l => insAt zahead l p) []
theorem csort_perm : ∀ c : List ZZ, (csort c).Perm c
  | [] => .refl _
  | p :: c => (ins_perm _ p).trans ((csort_perm c).cons p)
theorem csort_sorted : ∀ {c : List ZZ}, (∀ p ∈ c, Plc p) → (csort c).Pairwise zahead
  | [], _ => .nil
  | p :: c, h => ins_sorted (R := zahead) Plc (fun _ _ _ => zahead_trans) zahead_total (h p List.mem_cons_self) _ (fun q hq => h q (List.mem_cons_of_mem _ ((csort_perm c).mem_iff.mp hq))) (csort_sorted fun q hq => h q (List.mem_cons_of_mem _ hq))
/-- the curve of a city -/
def cv (c : List ZZ) (s : Rat) : Rat := fill ((csort c).map (shp (sA c) (sB c))) s
theorem div_self1 {a : Rat} (h : 0 < a) : a / a = 1 := by grind
theorem City.lsum1 {c l : List ZZ} (C : City c) (h : l.Perm c) : lsum (l.map (shp (sA c) (sB c))) = 1 := by
  rw [lsum_shp, sB_perm h, div_self1 (cast_pos C.sb)]
theorem cv_eq {c l : List ZZ} (C : City c) (h : l.Perm c) (hs : l.Pairwise zahead) {s : Rat} (h0 : 0 ≤ s) (h1 : s ≤ 1) : fill (l.map (shp (sA c) (sB c))) s = cv c s := by
  refine fill_eq ((h.trans (csort_perm c).symm).map _) (shp_nonneg C.sa C.sb fun p hp => C.it p (h.mem_iff.mp hp)) (pairs_sorted C.sa C.sb hs) (pairs_sorted C.sa C.sb (csort_sorted C.it)) h0 ?_
  rw [C.lsum1 h]; exact h1
theorem cv_curve {c : List ZZ} (C : City c) {s : Rat} (h0 : 0 ≤ s) (h1 : s ≤ 1) : Curve (c.map (shp (sA c) (sB c))) s (cv c s) := by
  refine (fill_curve (shp_nonneg C.sa C.sb fun p hp => C.it p ((csort_perm c).mem_iff.mp hp)) (pairs_sorted C.sa C.sb (csort_sorted C.it)) h0 ?_).perm ((csort_perm c).map _)
  rw [C.lsum1 (csort_perm c)]; exact h1
/-- the sums of the first ones are below those of all -/
theorem pre_sums {c pre post l : List ZZ} (hc : ∀ p ∈ c, Plc p) (h : l.Perm c) (e : l = pre ++ post) : 0 ≤ sA pre ∧ sA pre ≤ sA c ∧ 0 ≤ sB pre ∧ sB pre ≤ sB c := by
  have h1 : ∀ p ∈ pre, Plc p := fun p hp => hc p (h.mem_iff.mp (by rw [e]; exact List.mem_append_left _ hp))
  have h2 : ∀ p ∈ post, Plc p := fun p hp => hc p (h.mem_iff.mp (by rw [e]; exact List.mem_append_right _ hp))
  have ⟨_, _, _, _⟩ := sAB_nonneg h1
  have ⟨_, _, _, _⟩ := sAB_nonneg h2
  rw [← sA_perm h, ← sB_perm h, e, sA_app, sB_app]
  omega
def vert (A B : Int) : List ZZ → Int → Int → List RR
  | [], _, _ => []
  | p :: l, X, Y => if p.2 = 0 then vert A B l X Y else ((((X + p.2 : Int) : Rat) / (B : Rat)), (((Y + p.1 : Int) : Rat) / (A : Rat))) :: vert A B l (X + p.2) (Y + p.1)

/-! Numbers in order of size; sums of the smallest. -/
def rle (a b : Rat) : Prop := a ≤ b
instance : DecidableRel rle := fun a b => inferInstanceAs (Decidable (a ≤ b))
theorem rle_tot (a b : Rat) : rle a b ∨ rle b a := Rat.le_total
theorem rle_tr (a b c : Rat) (_ : True) (_ : True) (_ : True) (h : rle a b) (k : rle b c) : rle a c := Rat.le_trans h k
theorem sorted_eq : ∀ {l m : List Rat}, l.Perm m → l.Pairwise rle → m.Pairwise rle → l = m
  | [], m, h, _, _ => (List.Perm.nil_eq h)
  | a :: l, [], h, _, _ => absurd h.length_eq (by simp)
  | a :: l, b :: m, h, h1, h2 => by
    rw [List.pairwise_cons] at h1 h2
    have e : a = b := by
      have ha : a ∈ b :: m := h.mem_iff.mp List.mem_cons_self
      have hb : b ∈ a :: l := h.mem_iff.mpr List.mem_cons_self
      rcases List.mem_cons.mp ha with e | ha
      · exact e
      · rcases List.mem_cons.mp hb with e | hb
        · exact e.symm
        · exact Rat.le_antisymm (h1.1 b hb) (h2.1 a ha)
    subst e
    rw [sorted_eq (List.Perm.cons_inv h) h1.2 h2.2]
def rsort (l : List Rat) : List Rat := l.foldr (fun x l => insAt rle l x) []
theorem rsort_perm : ∀ l : List Rat, (rsort l).Perm l
  | [] => .refl _
  | x :: l => (ins_perm _ x).trans ((rsort_perm l).cons x)
theorem rsort_sorted : ∀ l : List Rat, (rsort l).Pairwise rle
  | [] => .nil
  | x :: l => ins_sorted (R := rle) (fun _ => True) rle_tr rle_tot trivial _ (fun _ _ => trivial) (rsort_sorted l)
theorem rsort_eq {l m : List Rat} (h : l.Perm m) (hs : l.Pairwise rle) : l = rsort m := sorted_eq (h.trans (rsort_perm m).symm) hs (rsort_sorted m)
/-- put in behind those that are smaller -/
def insLt (l : List Rat) (x : Rat) : List Rat := l.take (l.filter fun a => decide (a < x)).length ++ [x] ++ l.drop (l.filter fun a => decide (a < x)).length
theorem insLt_perm (l : List Rat) (x : Rat) : (insLt l x).Perm (x :: l) := by
  unfold insLt
  have h := List.take_append_drop (l.filter fun a => decide (a < x)).length l
  generalize l.take (l.filter fun a => decide (a < x)).length = u at h
  generalize l.drop (l.filter fun a => decide (a < x)).length = v at h
  subst h
  rw [List.append_assoc]
  exact List.perm_middle
theorem insLt_sorted (x : Rat) : ∀ l : List Rat, l.Pairwise rle → (insLt l x).Pairwise rle
  | [], _ => by simp [insLt]
  | a :: l, h => by
    obtain ⟨h1, h2⟩ := List.pairwise_cons.mp h
    by_cases hr : a < x
    · have e : insLt (a :: l) x = a :: insLt l x := by simp [insLt, List.filter_cons, hr]
      rw [e, List.pairwise_cons]
      refine ⟨fun b hb => ?_, insLt_sorted x l h2⟩
      have := (insLt_perm l x).mem_iff.mp hb
      rcases List.mem_cons.mp this with rfl | this
      · exact Rat.le_of_lt hr
      · exact h1 b this
    · have hx1 : x ≤ a := Rat.not_lt.mp hr
      have e0 : (a :: l).filter (fun b => decide (b < x)) = [] := by
        rw [List.filter_eq_nil_iff]
        intro b hb
        rcases List.mem_cons.mp hb with rfl | hb
        · simpa using hr
        · have h3 : a ≤ b := h1 b hb
          have h4 : ¬ b < x := Rat.not_lt.mpr (Rat.le_trans hx1 h3)
          simpa using h4
      have e : insLt (a :: l) x = x :: a :: l := by unfold insLt; rw [e0]; rfl
      rw [e, List.pairwise_cons]
      refine ⟨fun b hb => ?_, h⟩
      rcases List.mem_cons.mp hb with rfl | hb
      · exact hx1
      · exact Rat.le_trans hx1 (h1 b hb)
def pos (x : Rat) : Rat := if 0 ≤ x then x else 0
theorem pos_ge (x : Rat) : x ≤ pos x := by unfold pos; split <;> grind
theorem pos_nn (x : Rat) : 0 ≤ pos x := by unfold pos; split <;> grind
theorem pos_z {x : Rat} (h : x ≤ 0) : pos x = 0 := by unfold pos; split <;> grind
theorem pos_p {x : Rat} (h : 0 ≤ x) : pos x = x := by unfold pos; rw [if_pos h]
def phi (l : List Rat) (t : Rat) : Rat := (l.map fun q => pos (t - q)).sum
theorem phi_cons (q : Rat) (l : List Rat) (t : Rat) : phi (q :: l) t = pos (t - q) + phi l t := by simp [phi]
theorem phi_nn (t : Rat) : ∀ l : List Rat, 0 ≤ phi l t
  | [] => by simp [phi]
  | q :: l => by
    rw [phi_cons]
    have := pos_nn (t - q)
    have := phi_nn t l
    grind
theorem phi_zero (t : Rat) : ∀ l : List Rat, (∀ q ∈ l, t ≤ q) → phi l t = 0
  | [], _ => by simp [phi]
  | q :: l, h => by
    have h1 := h q List.mem_cons_self
    rw [phi_cons, phi_zero t l fun r hr => h r (List.mem_cons_of_mem _ hr), pos_z (by grind)]
    grind
theorem phi_perm (t : Rat) {l m : List Rat} (h : l.Perm m) : phi l t = phi m t := by
  induction h with
  | nil => rfl
  | cons q _ ih => rw [phi_cons, phi_cons, ih]
  | swap p q l => rw [phi_cons, phi_cons, phi_cons, phi_cons]; grind
  | trans _ _ h1 h2 => rw [h1, h2]
theorem pre_ge (t : Rat) : ∀ (l : List Rat) (k : Nat), k ≤ l.length → (k : Rat) * t - phi l t ≤ (l.take k).sum
  | l, 0, _ => by
    have := phi_nn t l
    simp only [List.take_zero, List.sum_nil]
    grind
  | [], k + 1, h => by simp at h
  | q :: l, k + 1, h => by
    have ih := pre_ge t l k (by simpa using h)
    have h1 := pos_ge (t - q)
    rw [phi_cons, List.take_succ_cons, List.sum_cons]
    have e : ((k + 1 : Nat) : Rat) = (k : Rat) + 1 := by exact_mod_cast rfl
    rw [e]
    grind
theorem pre_eq (t : Rat) : ∀ (l : List Rat) (k : Nat), k ≤ l.length → (∀ q ∈ l.take k, q ≤ t) → (∀ q ∈ l.drop k, t ≤ q) → (l.take k).sum = (k : Rat) * t - phi l t
  | l, 0, _, _, h2 => by
    rw [phi_zero t l (by simpa using h2)]
    simp only [List.take_zero, List.sum_nil]
    grind
  | [], k + 1, h, _, _ => by simp at h
  | q :: l, k + 1, h, h1, h2 => by
    have hq : q ≤ t := h1 q (by simp)
    have ih := pre_eq t l k (by simpa using h) (fun r hr => h1 r (by rw [List.take_succ_cons]; exact List.mem_cons_of_mem _ hr)) (fun r hr => h2 r (by simpa using hr))
    rw [phi_cons, List.take_succ_cons, List.sum_cons, ih, pos_p (by grind)]
    have e : ((k + 1 : Nat) : Rat) = (k : Rat) + 1 := by exact_mod_cast rfl
    rw [e]
    grind
theorem maj {v w : List Rat} (hl : w.length = v.length) (h : ∀ t, phi w t ≤ phi v t) {k : Nat} (hk : k < v.length) : ((rsort v).take (k + 1)).sum ≤ ((rsort w).take (k + 1)).sum := by
  have lv : (rsort v).length = v.length := (rsort_perm v).length_eq
  have lw : (rsort w).length = w.length := (rsort_perm w).length_eq
  have hk' : k < (rsort v).length := by omega
  have hs := rsort_sorted v
  rw [List.pairwise_iff_getElem] at hs
  obtain ⟨t, ht⟩ : ∃ t, t = (rsort v)[k] := ⟨_, rfl⟩
  have h1 := pre_eq t (rsort v) (k + 1) (by omega) (fun q hq => by
    obtain ⟨i, hi, rfl⟩ := List.getElem_of_mem hq
    rw [List.length_take] at hi
    rw [List.getElem_take, ht]
    by_cases e : i = k
    · subst e; exact Rat.le_refl
    · exact hs i k (by omega) hk' (by omega)) (fun q hq => by
    obtain ⟨i, hi, rfl⟩ := List.getElem_of_mem hq
    rw [List.length_drop] at hi
    rw [List.getElem_drop, ht]
    exact hs k (k + 1 + i) hk' (by omega) (by omega))
  have h2 := pre_ge t (rsort w) (k + 1) (by omega)
  have h3 := h t
  rw [← phi_perm t (rsort_perm v), ← phi_perm t (rsort_perm w)] at h3
  rw [h1]
  grind
theorem sumR_le {f g : Nat → Rat} : ∀ n, (∀ i < n, f i ≤ g i) → sumR n f ≤ sumR n g
  | 0, _ => Rat.le_refl
  | n + 1, h => by
    rw [sumR_succ, sumR_succ]
    have := sumR_le n fun i hi => h i (by omega)
    have := h n (by omega)
    grind
theorem sumR_nn {f : Nat → Rat} : ∀ n, (∀ i < n, 0 ≤ f i) → 0 ≤ sumR n f
  | 0, _ => Rat.le_refl
  | n + 1, h => by
    rw [sumR_succ]
    have := sumR_nn n fun i hi => h i (by omega)
    have := h n (by omega)
    grind
theorem pos_sum {c x : Nat → Rat} (n : Nat) (h : ∀ i < n, 0 ≤ c i) : pos (sumR n fun i => c i * x i) ≤ sumR n fun i => c i * pos (x i) := by
  have h1 : (sumR n fun i => c i * x i) ≤ sumR n fun i => c i * pos (x i) := sumR_le n fun i hi => Rat.mul_le_mul_of_nonneg_left (pos_ge _) (h i hi)
  have h2 : 0 ≤ sumR n fun i => c i * pos (x i) := sumR_nn n fun i hi => Rat.mul_nonneg (h i hi) (pos_nn _)
  unfold pos at h1 h2 ⊢
  split <;> grind
theorem all_eq {f : Nat → Rat} {c : Rat} (n : Nat) (h : ∀ i < n, c ≤ f i) (hs : sumR n f = (n : Rat) * c) : ∀ i < n, f i = c := by
  induction n with
  | zero => intro i hi; omega
  | succ n ih =>
    have e : ((n + 1 : Nat) : Rat) = (n : Rat) + 1 := by exact_mod_cast rfl
    rw [sumR_succ, e] at hs
    have key : ∀ n, (∀ i < n, c ≤ f i) → (n : Rat) * c ≤ sumR n f := by
      intro n h
      induction n with
      | zero => show ((0 : Nat) : Rat) * c ≤ 0; have : ((0 : Nat) : Rat) = 0 := rfl; rw [this]; grind
      | succ n ih =>
        have e : ((n + 1 : Nat) : Rat) = (n : Rat) + 1 := by exact_mod_cast rfl
        rw [sumR_succ, e]
        have := ih fun i hi => h i (by omega)
        have := h n (by omega)
        grind
    have k1 := key n fun i hi => h i (by omega)
    have k2 := h n (by omega)
    have hn : f n = c := by grind
    have hr : sumR n f = (n : Rat) * c := by grind
    intro i hi
    by_cases e : i = n
    · rw [e]; exact hn
    · exact ih (fun i hi => h i (by omega)) hr i (by omega)

theorem com_loop (K : Ends) : ∀ (b a : Nat), K.nx [Sl.val (.int (Nat.gcd a b)), Sl.val (.int 0)] → ∃ n, whN (c_e (e_op o_ne (b_v 1) (e_c (.int 0)))) (s_par 0 1 (e_v 1) (e_op o_mod (b_v 0) (b_v 1))) K n [.val (.int a), .val (.int b)] := by
  intro b
  induction b using Nat.strongRecOn with
  | _ b ih =>
    intro a h
    by_cases hb : b = 0
    · subst hb
      refine ⟨1, ?_⟩
      simp [whN] at h ⊢
      exact h
    · obtain ⟨n, hn⟩ := ih (a % b) (Nat.mod_lt _ (Nat.pos_of_ne_zero hb)) b (by rw [Nat.gcd_comm, ← Nat.gcd_rec, Nat.gcd_comm]; exact h)
      refine ⟨n + 1, ?_⟩
      have e : (a : Int).fmod b = ((a % b : Nat) : Int) := by
        rw [Int.fmod_eq_emod_of_nonneg _ (by omega)]; simp
      simp [whN, hb, e]
      exact hn
theorem p_common (n d : Int) {Q : D → Prop} {x : EX} (h : Q (.int (Int.gcd n d))) : c_common [.int n, .int d] Q x := by
  refine ⟨rfl, ?_⟩
  simp [T_common, abs_if, s_while]
  exact com_loop _ _ _ (by simpa [Int.gcd] using h)
theorem p_lowest (n d : Int) {B : Nat} {Q : D → Prop} {x : EX} (hd : d ≠ 0) (hs : d.natAbs < 2 ^ B) (hB : B ≤ 8999) (h : Q (rD (Rat.divInt n d))) : c_lowest [.int n, .int d] Q x := by
  refine ⟨rfl, ?_⟩
  simp [T_lowest]
  apply p_common
  have k := gcd_divOk (n := n) hd hs hB
  have q := low_eq n d hd (Q := Q) h
  simp [k.1, k.2]
  exact q
theorem p_plus {a b : Rat} {A B : Nat} {Q : D → Prop} {x : EX} (ha : sz A a) (hb : sz B b) (hAB : A + B ≤ 8999) (h : Q (rD (a + b))) : c_plus [rD a, rD b] Q x := by
  refine ⟨rfl, ?_⟩
  have d1 : (a.den : Int).natAbs < 2 ^ A := by rw [Int.natAbs_natCast]; exact ha.2
  have d2 : (b.den : Int).natAbs < 2 ^ B := by rw [Int.natAbs_natCast]; exact hb.2
  have m1 := mulOk_of ha.1 d2 (by omega)
  have m2 := mulOk_of hb.1 d1 (by omega)
  have m3 := mulOk_of d1 d2 (by omega)
  simp [T_plus, rD, at_, m1, m2, m3]
  refine p_lowest (B := A + B) _ _ ?_ (abs_mul_lt d1 d2) hAB ?_
  · have := Nat.mul_pos a.den_pos b.den_pos
    have e : (a.den : Int) * b.den = ((a.den * b.den : Nat) : Int) := by simp
    rw [e]; omega
  · rw [add_eq_divInt] at h
    simpa using h
theorem p_times {a b : Rat} {A B : Nat} {Q : D → Prop} {x : EX} (ha : sz A a) (hb : sz B b) (hAB : A + B ≤ 8999) (h : Q (rD (a * b))) : c_times [rD a, rD b] Q x := by
  refine ⟨rfl, ?_⟩
  have d1 : (a.den : Int).natAbs < 2 ^ A := by rw [Int.natAbs_natCast]; exact ha.2
  have d2 : (b.den : Int).natAbs < 2 ^ B := by rw [Int.natAbs_natCast]; exact hb.2
  have m1 := mulOk_of ha.1 hb.1 (by omega)
  have m3 := mulOk_of d1 d2 (by omega)
  simp [T_times, rD, at_, m1, m3]
  refine p_lowest (B := A + B) _ _ ?_ (abs_mul_lt d1 d2) hAB ?_
  · have := Nat.mul_pos a.den_pos b.den_pos
    have e : (a.den : Int) * b.den = ((a.den * b.den : Nat) : Int) := by simp
    rw [e]; omega
  · rw [mul_eq_divInt] at h
    simpa using h
theorem p_below {a b : Rat} {A B : Nat} {Q : D → Prop} {x : EX} (ha : sz A a) (hb : sz B b) (hAB : A + B ≤ 8999) (h : Q (.bool (decide (a < b)))) : c_below [rD a, rD b] Q x := by
  refine ⟨rfl, ?_⟩
  have d1 : (a.den : Int).natAbs < 2 ^ A := by rw [Int.natAbs_natCast]; exact ha.2
  have d2 : (b.den : Int).natAbs < 2 ^ B := by rw [Int.natAbs_natCast]; exact hb.2
  have m1 := mulOk_of ha.1 d2 (by omega)
  have m2 := mulOk_of hb.1 d1 (by omega)
  simp [T_below, rD, at_, m1, m2]
  have e : decide (a < b) = decide (a.num * b.den < b.num * a.den) := by rw [decide_eq_decide]; exact Rat.lt_iff _ _
  rw [e] at h
  exact h
theorem tot_loop (K : Ends) (v : Sl) (B : Nat) : ∀ (qs : List Rat) (S : Nat) (acc : Rat) (y : Sl), (∀ q ∈ qs, sz B q) → sz S acc → S + qs.length * (B + 1) ≤ 8999 → (∀ y, K.nx [v, .val (rD (acc + qs.sum)), y]) →
    forL (g_n 2) (s_if (c_e (e_op o_ne (e_op o_ix (b_v 2) (e_c (.int 0))) (e_c (.int 0)))) (s_set 1 (e_call c_plus (a_cons (e_v 1) (a_cons (e_v 2) a_nil)))) s_nil) K (qs.map rD) [v, .val (rD acc), y] := by
  intro qs
  induction qs with
  | nil =>
    intro S acc y _ _ _ h
    simpa [add0] using h y
  | cons q qs ih =>
    intro S acc y hB hS hl h
    have hq := hB q List.mem_cons_self
    have hr : ∀ q ∈ qs, sz B q := fun r hr => hB r (List.mem_cons_of_mem _ hr)
    rw [List.length_cons, Nat.add_mul, Nat.one_mul] at hl
    by_cases h0 : q.num = 0
    · have e : q = 0 := Rat.num_eq_zero.mp h0
      subst e
      simp [rD, at_]
      refine ih S acc _ hr hS (by omega) fun y => ?_
      have := h y
      rwa [sum_cons', Rat.zero_add] at this
    · have step := ih (S + B + 1) (acc + q) (.val (rD q)) hr (sz_add hS hq) (by omega) (fun y => by have := h y; rwa [sum_cons', ← Rat.add_assoc] at this)
      have kpl := p_plus (Q := fun d => forL (g_n 2) (s_if (c_e (e_op o_ne (e_op o_ix (b_v 2) (e_c (.int 0))) (e_c (.int 0)))) (s_set 1 (e_call c_plus (a_cons (e_v 1) (a_cons (e_v 2) a_nil)))) s_nil) K (qs.map rD) [v, .val d, .val (rD q)]) (x := K.ex) hS hq (by omega) step
      simp [rD, at_, h0] at kpl ⊢
      exact kpl
theorem p_total (b : Bool) (qs : List Rat) {B : Nat} {Q : D → Prop} {x : EX} (hB : ∀ q ∈ qs, sz B q) (hl : 1 + qs.length * (B + 1) ≤ 8999) (h : Q (rD qs.sum)) : c_total [seqOf b (qs.map rD)] Q x := by
  refine ⟨rfl, ?_⟩
  have key := fun v => tot_loop { nx := fun ρ' => s_ret (e_v 1) { nx := fun _ => Q .none, rt := Q, bk := fun _ => False, ct := fun _ => False, ex := x } ρ', rt := Q, bk := fun _ => False, ct := fun _ => False, ex := x } v B qs 1 0 .emp hB sz_zero hl (fun y => by simpa [Rat.zero_add] using h)
  have e0 : k_ZERO = rD 0 := rfl
  cases b
  · simp [T_total, seqOf, e0] at key ⊢; exact key _
  · simp [T_total, seqOf, e0] at key ⊢; exact key _
theorem p_is_whole (d : D) {Q : D → Prop} {x : EX} (h : Q (.bool (isWholeB d))) : c_is_whole [d] Q x := by
  refine ⟨rfl, ?_⟩
  cases d <;> simpa [T_is_whole, isWholeB] using h
theorem p_is_ratio (d : D) {Q : D → Prop} {x : EX} (h : Q (.bool (isRatB d))) : c_is_ratio [d] Q x := by
  refine ⟨rfl, ?_⟩
  cases d with
  | tuple ds =>
    match ds, h with
    | [], h => simpa [T_is_ratio, isRatB, at_] using h
    | [a], h => simpa [T_is_ratio, isRatB, at_] using h
    | [a, b], h =>
      simp [T_is_ratio, at_]
      refine p_is_whole a ?_
      cases a with
      | int n =>
        simp [isWholeB]
        refine p_is_whole b ?_
        cases b with
        | int m =>
          simp [isWholeB]
          by_cases hm : 0 < m
          · simp [hm]
            refine p_common n m ?_
            simp [isRatB, hm] at h ⊢
            have e : decide (n.gcd m = 1) = ((n.gcd m : Int) == 1) := by
              rw [Bool.eq_iff_iff]; simp; omega
            rw [e] at h
            exact h
          · simpa [isRatB, hm] using h
        | _ => simpa [isWholeB, isRatB] using h
      | _ => simpa [isWholeB, isRatB] using h
    | a :: b :: c :: r, h =>
      have e : ¬ ((r.length : Int) + 1 + 1 + 1 = 2) := by omega
      simpa [T_is_ratio, isRatB, at_, e] using h
  | _ => simpa [T_is_ratio, isRatB] using h
theorem lcom_loop (K : Ends) : ∀ (b a : Nat), K.nx [Sl.val (.int (Nat.gcd a b)), Sl.val (.int 0)] → ∃ n, whN (c_e (e_op o_gt (b_v 1) (e_c (.int 0)))) (s_par 0 1 (e_v 1) (e_op o_mod (e_un o_int (b_v 0)) (b_v 1))) K n [.val (.int a), .val (.int b)] := by
  intro b
  induction b using Nat.strongRecOn with
  | _ b ih =>
    intro a h
    by_cases hb : b = 0
    · subst hb
      refine ⟨1, ?_⟩
      simp [whN] at h ⊢
      exact h
    · obtain ⟨n, hn⟩ := ih (a % b) (Nat.mod_lt _ (Nat.pos_of_ne_zero hb)) b (by rw [Nat.gcd_comm, ← Nat.gcd_rec, Nat.gcd_comm]; exact h)
      refine ⟨n + 1, ?_⟩
      have e : (a : Int).fmod b = ((a % b : Nat) : Int) := by
        rw [Int.fmod_eq_emod_of_nonneg _ (by omega)]; simp
      have hb' : 0 < b := Nat.pos_of_ne_zero hb
      simp [whN, hb, e, hb']
      exact hn
theorem p_law_gcd (n d : Int) {Q : D → Prop} {x : EX} (h : Q (.int (Int.gcd n d))) : c_law_gcd [.int n, .int d] Q x := by
  refine ⟨rfl, ?_⟩
  simp [T_law_gcd, abs_if, s_while]
  exact lcom_loop _ _ _ (by simpa [Int.gcd] using h)
theorem p_law_ratio (n d : Int) {B : Nat} {Q : D → Prop} {x : EX} (hd : d ≠ 0) (hs : d.natAbs < 2 ^ B) (hB : B ≤ 8999) (h : Q (rD (Rat.divInt n d))) : c_law_ratio [.int n, .int d] Q x := by
  refine ⟨rfl, ?_⟩
  simp [T_law_ratio]
  apply p_law_gcd
  have k := gcd_divOk (n := n) hd hs hB
  have q := low_eq n d hd (Q := Q) h
  by_cases hp : 0 < d
  · rw [if_neg (by omega)] at q
    simp [k.1, hp]
    exact q
  · rw [if_pos (by omega)] at q
    simp [k.1, hp]
    have g0 : n.gcd d ≠ 0 := fun z => hd (Int.gcd_eq_zero_iff.mp z).2
    rw [(gcd_dvd_div (d := d) (n.gcd d) g0 (Int.gcd_dvd_left n d)).2, (gcd_dvd_div (d := d) (n.gcd d) g0 (Int.gcd_dvd_right n d)).2] at q
    rw [(gcd_dvd_div (n := -n) (d := d) (n.gcd d) g0 (Int.dvd_neg.mpr (Int.gcd_dvd_left n d))).1, (gcd_dvd_div (n := -d) (d := d) (n.gcd d) g0 (Int.dvd_neg.mpr (Int.gcd_dvd_right n d))).1]
    exact q
theorem p_law_plus {a b : Rat} {A B : Nat} {Q : D → Prop} {x : EX} (ha : sz A a) (hb : sz B b) (hAB : A + B ≤ 8999) (h : Q (rD (a + b))) : c_law_plus [rD a, rD b] Q x := by
  refine ⟨rfl, ?_⟩
  have d1 : (a.den : Int).natAbs < 2 ^ A := by rw [Int.natAbs_natCast]; exact ha.2
  have d2 : (b.den : Int).natAbs < 2 ^ B := by rw [Int.natAbs_natCast]; exact hb.2
  have m1 := mulOk_of ha.1 d2 (by omega)
  have m2 := mulOk_of hb.1 d1 (by omega)
  have m3 := mulOk_of d1 d2 (by omega)
  simp [T_law_plus, rD, at_, m1, m2, m3]
  refine p_law_ratio (B := A + B) _ _ ?_ (abs_mul_lt d1 d2) hAB ?_
  · have := Nat.mul_pos a.den_pos b.den_pos
    have e : (a.den : Int) * b.den = ((a.den * b.den : Nat) : Int) := by simp
    rw [e]; omega
  · rw [add_eq_divInt] at h
    simpa using h
theorem p_law_times {a b : Rat} {A B : Nat} {Q : D → Prop} {x : EX} (ha : sz A a) (hb : sz B b) (hAB : A + B ≤ 8999) (h : Q (rD (a * b))) : c_law_times [rD a, rD b] Q x := by
  refine ⟨rfl, ?_⟩
  have d1 : (a.den : Int).natAbs < 2 ^ A := by rw [Int.natAbs_natCast]; exact ha.2
  have d2 : (b.den : Int).natAbs < 2 ^ B := by rw [Int.natAbs_natCast]; exact hb.2
  have m1 := mulOk_of ha.1 hb.1 (by omega)
  have m3 := mulOk_of d1 d2 (by omega)
  simp [T_law_times, rD, at_, m1, m3]
  refine p_law_ratio (B := A + B) _ _ ?_ (abs_mul_lt d1 d2) hAB ?_
  · have := Nat.mul_pos a.den_pos b.den_pos
    have e : (a.den : Int) * b.den = ((a.den * b.den : Nat) : Int) := by simp
    rw [e]; omega
  · rw [mul_eq_divInt] at h
    simpa using h
theorem p_law_less {a b : Rat} {A B : Nat} {Q : D → Prop} {x : EX} (ha : sz A a) (hb : sz B b) (hAB : A + B ≤ 8999) (h : Q (.bool (decide (a < b)))) : c_law_less [rD a, rD b] Q x := by
  refine ⟨rfl, ?_⟩
  have d1 : (a.den : Int).natAbs < 2 ^ A := by rw [Int.natAbs_natCast]; exact ha.2
  have d2 : (b.den : Int).natAbs < 2 ^ B := by rw [Int.natAbs_natCast]; exact hb.2
  have m1 := mulOk_of ha.1 d2 (by omega)
  have m2 := mulOk_of hb.1 d1 (by omega)
  simp [T_law_less, rD, at_, m1, m2]
  have e : decide (a < b) = decide (a.num * b.den < b.num * a.den) := by rw [decide_eq_decide]; exact Rat.lt_iff _ _
  rw [e] at h
  exact h
theorem lsum_loop (K : Ends) (v : Sl) (B : Nat) : ∀ (qs : List Rat) (S : Nat) (acc : Rat) (y : Sl), (∀ q ∈ qs, sz B q) → sz S acc → S + qs.length * (B + 1) ≤ 8999 → (∀ y, K.nx [v, .val (rD (acc + qs.sum)), y]) →
    forL (g_n 2) (s_set 1 (e_call c_law_plus (a_cons (e_v 1) (a_cons (e_v 2) a_nil)))) K (qs.map rD) [v, .val (rD acc), y] := by
  intro qs
  induction qs with
  | nil =>
    intro S acc y _ _ _ h
    simpa [add0] using h y
  | cons q qs ih =>
    intro S acc y hB hS hl h
    have hq := hB q List.mem_cons_self
    have hr : ∀ q ∈ qs, sz B q := fun r hr => hB r (List.mem_cons_of_mem _ hr)
    rw [List.length_cons, Nat.add_mul, Nat.one_mul] at hl
    have step := ih (S + B + 1) (acc + q) (.val (rD q)) hr (sz_add hS hq) (by omega) (fun y => by have := h y; rwa [sum_cons', ← Rat.add_assoc] at this)
    have kpl := p_law_plus (Q := fun d => forL (g_n 2) (s_set 1 (e_call c_law_plus (a_cons (e_v 1) (a_cons (e_v 2) a_nil)))) K (qs.map rD) [v, .val d, .val (rD q)]) (x := K.ex) hS hq (by omega) step
    simpa using kpl
theorem p_law_sum (b : Bool) (qs : List Rat) {B : Nat} {Q : D → Prop} {x : EX} (hB : ∀ q ∈ qs, sz B q) (hl : 1 + qs.length * (B + 1) ≤ 8999) (h : Q (rD qs.sum)) : c_law_sum [seqOf b (qs.map rD)] Q x := by
  refine ⟨rfl, ?_⟩
  have key := fun v => lsum_loop { nx := fun ρ' => s_ret (e_v 1) { nx := fun _ => Q .none, rt := Q, bk := fun _ => False, ct := fun _ => False, ex := x } ρ', rt := Q, bk := fun _ => False, ct := fun _ => False, ex := x } v B qs 1 0 .emp hB sz_zero hl (fun y => by simpa [Rat.zero_add] using h)
  have e0 : (PyData.tuple [.int 0, .int 1]) = rD 0 := rfl
  cases b
  · simp [T_law_sum, seqOf, e0] at key ⊢; exact key _
  · simp [T_law_sum, seqOf, e0] at key ⊢; exact key _
theorem div_eq_divInt (a b : Rat) : a / b = Rat.divInt (a.num * b.den) (a.den * b.num) := by
  rw [Rat.div_def, Rat.inv_def]
  conv => lhs; rw [← Rat.num_divInt_den a]
  rw [Rat.divInt_mul_divInt]
local macro_rules | `(tactic| simp_all_arith) => `(tactic| refine p_plus (by simp_arith) (by simp_arith) (by first | decide | omega) ?_)
local macro_rules | `(tactic| simp_all_arith) => `(tactic| refine p_times (by simp_arith) (by simp_arith) (by first | decide | omega) ?_)
local macro_rules | `(tactic| simp_all_arith) => `(tactic| refine p_below (by simp_arith) (by simp_arith) (by first | decide | omega) ?_)
local macro_rules | `(tactic| simp_all_arith) => `(tactic| refine p_law_plus (by simp_arith) (by simp_arith) (by first | decide | omega) ?_)
local macro_rules | `(tactic| simp_all_arith) => `(tactic| refine p_law_times (by simp_arith) (by simp_arith) (by first | decide | omega) ?_)
local macro_rules | `(tactic| simp_all_arith) => `(tactic| refine p_law_less (by simp_arith) (by simp_arith) (by first | decide | omega) ?_)
local macro_rules | `(tactic| simp_all_arith) => `(tactic| refine p_is_whole _ ?_)
local macro_rules | `(tactic| simp_all_arith) => `(tactic| refine p_is_ratio _ ?_)

theorem canLay_all (ds : List D) : PyData.canLayAll0 ds = true ↔ ∀ d ∈ ds, PyData.canLay0 d = true := by
  induction ds with
  | nil => simp [PyData.canLayAll0]
  | cons d ds ih => simp [PyData.canLayAll0, ih]
theorem shaped_seq {ds : List D} (h : ∀ d ∈ ds, PyData.canLay0 d = true ∧ PyData.depth d ≤ 50) : SeqAt.shaped (.list ds) = true ∧ SeqAt.shaped (.tuple ds) = true := by
  have h1 : PyData.canLayAll0 ds = true := (canLay_all ds).mpr fun d hd => (h d hd).1
  have h2 : PyData.depthAll ds ≤ 50 := depthAll_le fun d hd => (h d hd).2
  simp [SeqAt.shaped, PyData.canLay0, PyData.depth, h1]
  omega
theorem isRat_pair_no {u v : D} (h : ¬ (isWholeB u && isWholeB v) = true) : isRatB (.tuple [u, v]) = false := by
  cases u with
  | int a => cases v with
    | int b => exact absurd rfl h
    | _ => rfl
  | _ => cases v <;> rfl
theorem p_law_is_fraction (d : D) {B : Nat} (hB : ∀ a b : Int, d = .tuple [.int a, .int b] → b.natAbs < 2 ^ B) (h8 : B ≤ 8999) {Q : D → Prop} {x : EX} (h : Q (.bool (isRatB d))) : c_law_is_fraction [d] Q x := by
  (refine ⟨rfl, ?_⟩; unfold T_law_is_fraction; simp only [start, startL, List.length_cons, List.length_nil, Nat.reduceAdd, Nat.reduceSub, List.replicate, List.cons_append, List.nil_append])
  refine seq_go fun U hU => ?_
  cases d with
  | tuple ds =>
    by_cases hl : ds.length = 2
    · match ds, hl with
      | [u, v], _ =>
        dsimp! [isTy]
        have e : ((((0 + 1 + 1 : Nat) : Int) == 2)) = true := rfl
        dsimp! [e]
        (refine hU _ ?_; clear hU U)
        refine seq_go fun U hU => ?_
        dsimp!
        refine ⟨by decide, lc_fun (fun d => .bool (isWholeB d)) [u, v] [] (fun d _ P hP => ?_) ?_⟩
        · dsimp!
          cases d <;> (dsimp! [isTy, isWholeB] at hP ⊢; exact hP)
        simp only [List.nil_append, List.map_cons, List.map_nil, boolsOf, Option.map, someOf, List.all_cons, List.all_nil, id]
        by_cases hu : isWholeB u && isWholeB v
        · simp only [Bool.and_eq_true] at hu
          cases u with
          | int a =>
            cases v with
            | int b =>
              dsimp! [isWholeB]
              (refine hU _ ?_; clear hU U)
              dsimp!
              by_cases hb : 0 < b
              · dsimp! [hb]
                refine p_law_ratio a b (B := B) (by omega) (hB a b rfl) h8 ?_
                have hrd : o_eq (rD (Rat.divInt a b)) (.tuple [.int a, .int b]) Q := by
                  have hsh : SeqAt.shaped (.tuple [.int a, .int b]) = true := by simp [SeqAt.shaped, PyData.canLay0, PyData.canLayAll0, PyData.depth, PyData.depthAll]
                  refine ⟨⟨shaped_rD _, hsh⟩, ?_⟩
                  have e : PyData.eqv (rD (Rat.divInt a b)) (.tuple [.int a, .int b]) = isRatB (.tuple [.int a, .int b]) := by
                    rw [divInt_rD a b (by omega), Int.sign_eq_one_of_pos hb]
                    simp only [PyData.eqv, PyData.eqvAll, Bool.and_true, isRatB]
                    rw [Bool.eq_iff_iff]
                    simp only [Bool.and_eq_true, beq_iff_eq, decide_eq_true_eq, Int.one_mul]
                    rw [Int.gcd_comm b a]
                    have hg : 0 < a.gcd b := Nat.pos_of_ne_zero fun z => by
                      have := (Int.gcd_eq_zero_iff.mp z).2
                      omega
                    constructor
                    · rintro ⟨h1, h2⟩
                      refine ⟨hb, ?_⟩
                      have hbn : b.natAbs / a.gcd b = b.natAbs := by omega
                      have hb0 : 0 < b.natAbs := by omega
                      apply Classical.byContradiction
                      intro hne
                      have : b.natAbs / a.gcd b < b.natAbs := Nat.div_lt_self hb0 (by omega)
                      omega
                    · rintro ⟨_, h1⟩
                      rw [h1]
                      simp
                      omega
                  rw [e]
                  exact h
                exact hrd
              · dsimp! [hb]
                have : isRatB (.tuple [.int a, .int b]) = false := by simp [isRatB, hb]
                rw [this] at h
                exact h
            | _ => cases hu.2
          | _ => cases hu.1
        · have e2 : (isWholeB u && isWholeB v) = false := by simpa using hu
          dsimp! [e2]
          have : isRatB (.tuple [u, v]) = false := by
            exact isRat_pair_no hu
          rw [this] at h
          exact h
    · have e : ((ds.length : Int) == 2) = false := by simp; omega
      dsimp! [isTy, e]
      have : isRatB (.tuple ds) = false := by
        match ds, hl with
        | [], _ => rfl
        | [a], _ => simp [isRatB]
        | a :: b :: c :: r, _ => simp [isRatB]
      rw [this] at h
      exact h
  | _ => dsimp! [isTy]; exact h
theorem p_law_says (a : Bool) (b : Bool) {Q : D → Prop} {x : EX} (h : Q (.bool (a == b))) : c_law_says [.bool a, .bool b] Q x := by
  (refine ⟨rfl, ?_⟩; unfold T_law_says; simp only [start, startL, List.length_cons, List.length_nil, Nat.reduceAdd, Nat.reduceSub, List.replicate, List.cons_append, List.nil_append])
  dsimp! [isTy]
  refine ⟨by cases a <;> cases b <;> decide, ?_⟩
  have e : PyData.eqv (.bool a) (.bool b) = (a == b) := by simp [PyData.eqv]
  rw [e]
  exact h
theorem bool_ne (a b : Bool) {Q : D → Prop} (h : Q (.bool (!(a == b)))) : o_ne (.bool a) (.bool b) Q := by
  refine ⟨by cases a <;> cases b <;> decide, ?_⟩
  have e : PyData.eqv (.bool a) (.bool b) = (a == b) := by simp [PyData.eqv]
  rw [e]; exact h
/-- a value that is small enough -/
def vOk (d : D) : Prop := (∀ q, d = rD q → sz 4000 q) ∧ ∀ a b : Int, d = .tuple [.int a, .int b] → b.natAbs < 2 ^ 4000
theorem two_big : ∀ {n : Nat}, n < 2 ^ 30 → n < 2 ^ 4000 := fun h => Nat.lt_of_lt_of_le h (two_le (by decide))
theorem vOk_rD {q : Rat} (h : sz 30 q) : vOk (rD q) := ⟨fun p e => by rw [← rD_inj e]; exact h.mono (by decide), fun a b e => by
  simp only [rD, PyData.tuple.injEq, List.cons.injEq, PyData.int.injEq, and_true] at e
  rw [← e.2, Int.natAbs_natCast]
  exact two_big h.2⟩
theorem vOk_pair {a b : Int} (ha : a.natAbs < 2 ^ 30) (hb : b.natAbs < 2 ^ 30) : vOk (.tuple [.int a, .int b]) := ⟨fun q e => by
  simp only [rD, PyData.tuple.injEq, List.cons.injEq, PyData.int.injEq, and_true] at e
  refine ⟨?_, ?_⟩
  · rw [← e.1]; exact two_big ha
  · have := congrArg Int.natAbs e.2
    rw [Int.natAbs_natCast] at this
    rw [← this]; exact two_big hb, fun c d e => by
  simp only [PyData.tuple.injEq, List.cons.injEq, PyData.int.injEq, and_true] at e
  rw [← e.2]; exact two_big hb⟩
theorem vOk_odd {d : D} (h : ∀ a b, d ≠ .tuple [.int a, .int b]) : vOk d := ⟨fun q e => absurd e (h _ _), fun a b e => absurd e (h a b)⟩
theorem shaped_str {s : Str} (h : PyData.strOk s = true) : SeqAt.shaped (.str s) = true := by simp [SeqAt.shaped, PyData.canLay0, PyData.depth, h]
def MAL : D := .str "<malformed>"
theorem shG_MAL : shG MAL := by
  refine ⟨by decide +kernel, by decide, by decide⟩
theorem ne_mals {n : Nat} (hn : n ≤ 10) {Q : D → Prop} (hQ : Q (.bool false)) : o_ne (.list (List.replicate n MAL)) (.list (List.replicate n MAL)) Q := by
  have h : ∀ d ∈ List.replicate n MAL, PyData.canLay0 d = true ∧ PyData.depth d ≤ 50 := fun d hd => by
    rw [(List.mem_replicate.mp hd).2]
    exact ⟨by decide +kernel, by decide⟩
  refine ⟨⟨(shaped_seq h).1, (shaped_seq h).1⟩, ?_⟩
  have e : ∀ n, PyData.eqvAll (List.replicate n MAL) (List.replicate n MAL) = true := fun n => by
    induction n with
    | zero => rfl
    | succ n ih =>
      rw [List.replicate_succ]
      have : PyData.eqv MAL MAL = true := by decide +kernel
      simp [PyData.eqvAll, this, ih]
  have e2 : PyData.eqv (.list (List.replicate n MAL)) (.list (List.replicate n MAL)) = true := by simp only [PyData.eqv]; exact e n
  rw [e2]
  exact hQ
theorem eq_mals {n : Nat} (hn : n ≤ 10) {Q : D → Prop} (hQ : Q (.bool true)) : o_eq (.list (List.replicate n MAL)) (.list (List.replicate n MAL)) Q := by
  have h : ∀ d ∈ List.replicate n MAL, PyData.canLay0 d = true ∧ PyData.depth d ≤ 50 := fun d hd => by
    rw [(List.mem_replicate.mp hd).2]
    exact ⟨by decide +kernel, by decide⟩
  refine ⟨⟨(shaped_seq h).1, (shaped_seq h).1⟩, ?_⟩
  have e : ∀ n, PyData.eqvAll (List.replicate n MAL) (List.replicate n MAL) = true := fun n => by
    induction n with
    | zero => rfl
    | succ n ih =>
      rw [List.replicate_succ]
      have : PyData.eqv MAL MAL = true := by decide +kernel
      simp [PyData.eqvAll, this, ih]
  have e2 : PyData.eqv (.list (List.replicate n MAL)) (.list (List.replicate n MAL)) = true := by simp only [PyData.eqv]; exact e n
  rw [e2]
  exact hQ
theorem ne_mals2 (n : Nat) {a : List D} {k : Int} (ha : a = List.replicate n MAL) (hk : k.toNat = n) (hn : n ≤ 10) {Q : D → Prop} (hQ : Q (.bool false)) : o_ne (.list a) (.list (List.replicate k.toNat [MAL]).flatten) Q := by
  rw [ha, hk, rep_flat]; exact ne_mals hn hQ
theorem eq_mals2 (n : Nat) {a : List D} {k : Int} (ha : a = List.replicate n MAL) (hk : k.toNat = n) (hn : n ≤ 10) {Q : D → Prop} (hQ : Q (.bool true)) : o_eq (.list a) (.list (List.replicate k.toNat [MAL]).flatten) Q := by
  rw [ha, hk, rep_flat]; exact eq_mals hn hQ
theorem lc_mals {g : uG} {e : uE} {ρ : Env} {Q : List D → Prop} (ds : List D) (h : ∀ d ∈ ds, ∀ P : D → Prop, P MAL → g d ρ (fun ρ' => e ρ' P noEx)) (hQ : Q (List.replicate ds.length MAL)) : lcL g c_yes e ρ Q ds [] := by
  refine lc_fun (fun _ => MAL) ds [] h ?_
  rw [List.nil_append, List.map_const']
  exact hQ
/-- sums whose parts are all small -/
theorem tot_loopS (K : Ends) (v : Sl) {S B : Nat} (hSB : S + B ≤ 8999) : ∀ (qs : List Rat) (acc : Rat) (y : Sl), (∀ q ∈ qs, sz B q) → (∀ pre post, qs = pre ++ post → sz S (acc + pre.sum)) → (∀ y, K.nx [v, .val (rD (acc + qs.sum)), y]) →
    forL (g_n 2) (s_if (c_e (e_op o_ne (e_op o_ix (b_v 2) (e_c (.int 0))) (e_c (.int 0)))) (s_set 1 (e_call c_plus (a_cons (e_v 1) (a_cons (e_v 2) a_nil)))) s_nil) K (qs.map rD) [v, .val (rD acc), y] := by
  intro qs
  induction qs with
  | nil =>
    intro acc y _ _ h
    simpa [add0] using h y
  | cons q qs ih =>
    intro acc y hB hS h
    have hq := hB q List.mem_cons_self
    have hr : ∀ q ∈ qs, sz B q := fun r hr => hB r (List.mem_cons_of_mem _ hr)
    have h0S : sz S acc := by have := hS [] (q :: qs) rfl; simpa [add0] using this
    have hS' : ∀ pre post, qs = pre ++ post → sz S (acc + q + pre.sum) := fun pre post e => by
      have := hS (q :: pre) post (by rw [e]; rfl)
      rwa [sum_cons', ← Rat.add_assoc] at this
    by_cases h0 : q.num = 0
    · have e : q = 0 := Rat.num_eq_zero.mp h0
      subst e
      simp [rD, at_]
      refine ih acc _ hr (fun pre post e => by have := hS' pre post e; rwa [add0] at this) fun y => ?_
      have := h y
      rwa [sum_cons', Rat.zero_add] at this
    · have step := ih (acc + q) (.val (rD q)) hr hS' (fun y => by have := h y; rwa [sum_cons', ← Rat.add_assoc] at this)
      have kpl := p_plus (Q := fun d => forL (g_n 2) (s_if (c_e (e_op o_ne (e_op o_ix (b_v 2) (e_c (.int 0))) (e_c (.int 0)))) (s_set 1 (e_call c_plus (a_cons (e_v 1) (a_cons (e_v 2) a_nil)))) s_nil) K (qs.map rD) [v, .val d, .val (rD q)]) (x := K.ex) h0S hq hSB step
      simp [rD, at_, h0] at kpl ⊢
      exact kpl
theorem p_totalS (b : Bool) (qs : List Rat) {S B : Nat} {Q : D → Prop} {x : EX} (hSB : S + B ≤ 8999) (hB : ∀ q ∈ qs, sz B q) (hS : ∀ pre post, qs = pre ++ post → sz S pre.sum) (h : Q (rD qs.sum)) : c_total [seqOf b (qs.map rD)] Q x := by
  refine ⟨rfl, ?_⟩
  have key := fun v => tot_loopS { nx := fun ρ' => s_ret (e_v 1) { nx := fun _ => Q .none, rt := Q, bk := fun _ => False, ct := fun _ => False, ex := x } ρ', rt := Q, bk := fun _ => False, ct := fun _ => False, ex := x } v hSB qs 0 .emp hB (fun pre post e => by rw [Rat.zero_add]; exact hS pre post e) (fun y => by simpa [Rat.zero_add] using h)
  have e0 : k_ZERO = rD 0 := rfl
  cases b
  · simp [T_total, seqOf, e0] at key ⊢; exact key _
  · simp [T_total, seqOf, e0] at key ⊢; exact key _
theorem lsum_loopS (K : Ends) (v : Sl) {S B : Nat} (hSB : S + B ≤ 8999) : ∀ (qs : List Rat) (acc : Rat) (y : Sl), (∀ q ∈ qs, sz B q) → (∀ pre post, qs = pre ++ post → sz S (acc + pre.sum)) → (∀ y, K.nx [v, .val (rD (acc + qs.sum)), y]) →
    forL (g_n 2) (s_set 1 (e_call c_law_plus (a_cons (e_v 1) (a_cons (e_v 2) a_nil)))) K (qs.map rD) [v, .val (rD acc), y] := by
  intro qs
  induction qs with
  | nil =>
    intro acc y _ _ h
    simpa [add0] using h y
  | cons q qs ih =>
    intro acc y hB hS h
    have hq := hB q List.mem_cons_self
    have hr : ∀ q ∈ qs, sz B q := fun r hr => hB r (List.mem_cons_of_mem _ hr)
    have h0S : sz S acc := by have := hS [] (q :: qs) rfl; simpa [add0] using this
    have hS' : ∀ pre post, qs = pre ++ post → sz S (acc + q + pre.sum) := fun pre post e => by
      have := hS (q :: pre) post (by rw [e]; rfl)
      rwa [sum_cons', ← Rat.add_assoc] at this
    have step := ih (acc + q) (.val (rD q)) hr hS' (fun y => by have := h y; rwa [sum_cons', ← Rat.add_assoc] at this)
    have kpl := p_law_plus (Q := fun d => forL (g_n 2) (s_set 1 (e_call c_law_plus (a_cons (e_v 1) (a_cons (e_v 2) a_nil)))) K (qs.map rD) [v, .val d, .val (rD q)]) (x := K.ex) h0S hq hSB step
    simpa using kpl
theorem p_law_sumS (b : Bool) (qs : List Rat) {S B : Nat} {Q : D → Prop} {x : EX} (hSB : S + B ≤ 8999) (hB : ∀ q ∈ qs, sz B q) (hS : ∀ pre post, qs = pre ++ post → sz S pre.sum) (h : Q (rD qs.sum)) : c_law_sum [seqOf b (qs.map rD)] Q x := by
  refine ⟨rfl, ?_⟩
  have key := fun v => lsum_loopS { nx := fun ρ' => s_ret (e_v 1) { nx := fun _ => Q .none, rt := Q, bk := fun _ => False, ct := fun _ => False, ex := x } ρ', rt := Q, bk := fun _ => False, ct := fun _ => False, ex := x } v hSB qs 0 .emp hB (fun pre post e => by rw [Rat.zero_add]; exact hS pre post e) (fun y => by simpa [Rat.zero_add] using h)
  have e0 : (PyData.tuple [.int 0, .int 1]) = rD 0 := rfl
  cases b
  · simp [T_law_sum, seqOf, e0] at key ⊢; exact key _
  · simp [T_law_sum, seqOf, e0] at key ⊢; exact key _
/-- a whole number of N-th parts -/
def dn (N : Nat) (q : Rat) : Prop := ∃ k : Int, q = (k : Rat) / ((N : Int) : Rat)
theorem dn_of {N : Nat} (hN : 0 < N) {q : Rat} (h : q.den ∣ N) : dn N q := by
  obtain ⟨c, rfl⟩ := h
  refine ⟨q.num * c, ?_⟩
  have hc : 0 < c := Nat.pos_of_mul_pos_left hN
  have e : Rat.divInt (q.num * c) ((q.den * c : Nat) : Int) = q := by
    have := Rat.num_divInt_den q
    conv => rhs; rw [← this]
    rw [Rat.divInt_eq_divInt_iff (by have := q.den_pos; have := Nat.mul_pos q.den_pos hc; omega) (by have := q.den_pos; omega)]
    rw [Int.natCast_mul, Int.mul_assoc, Int.mul_comm (c : Int)]
  exact e.symm.trans (Rat.divInt_eq_div _ _)
theorem dn_add {N : Nat} {a b : Rat} (ha : dn N a) (hb : dn N b) : dn N (a + b) := by
  obtain ⟨j, rfl⟩ := ha
  obtain ⟨k, rfl⟩ := hb
  refine ⟨j + k, ?_⟩
  have : ((j + k : Int) : Rat) = (j : Rat) + k := by exact_mod_cast rfl
  rw [this]; grind
theorem dn_mul {N M : Nat} {a b : Rat} (ha : dn N a) (hb : dn M b) : dn (N * M) (a * b) := by
  obtain ⟨j, rfl⟩ := ha
  obtain ⟨k, rfl⟩ := hb
  refine ⟨j * k, ?_⟩
  have h1 : ((j * k : Int) : Rat) = (j : Rat) * k := by exact_mod_cast rfl
  have h2 : (((N * M : Nat) : Int) : Rat) = ((N : Int) : Rat) * ((M : Int) : Rat) := by exact_mod_cast rfl
  rw [h1, h2]; grind
theorem dn_zero {N : Nat} : dn N 0 := ⟨0, by show (0 : Rat) = (0 : Rat) / _; grind⟩
theorem dn_sum {N : Nat} : ∀ {qs : List Rat}, (∀ q ∈ qs, dn N q) → dn N qs.sum
  | [], _ => dn_zero
  | q :: qs, h => by
    rw [sum_cons']
    exact dn_add (h q List.mem_cons_self) (dn_sum fun r hr => h r (List.mem_cons_of_mem _ hr))
theorem dn_up {N M : Nat} (hM : 0 < M) {q : Rat} (h : dn N q) : dn (N * M) q := by
  obtain ⟨k, rfl⟩ := h
  refine ⟨k * M, ?_⟩
  have h1 : ((k * M : Int) : Rat) = (k : Rat) * ((M : Int) : Rat) := by exact_mod_cast rfl
  have h2 : (((N * M : Nat) : Int) : Rat) = ((N : Int) : Rat) * ((M : Int) : Rat) := by exact_mod_cast rfl
  have h3 : ((M : Int) : Rat) ≠ 0 := by
    have : (0 : Rat) < ((M : Int) : Rat) := by exact_mod_cast hM
    grind
  rw [h1, h2]; grind
theorem dn_dvd {N M : Nat} (hM : 0 < M) (hd : N ∣ M) {q : Rat} (h : dn N q) : dn M q := by
  obtain ⟨c, rfl⟩ := hd
  exact dn_up (Nat.pos_of_mul_pos_left hM) h
/-- N-th parts from 0 to 1 -/
theorem sz_dn {N S : Nat} (hN : 0 < N) (hS : N < 2 ^ S) {q : Rat} (h : dn N q) (h0 : 0 ≤ q) (h1 : q ≤ 1) : sz S q := by
  obtain ⟨k, rfl⟩ := h
  have hp : (0 : Rat) < ((N : Int) : Rat) := by exact_mod_cast hN
  have e : (k : Rat) / ((N : Int) : Rat) * ((N : Int) : Rat) = k := by grind
  have k0 : 0 ≤ k := by
    have := Rat.mul_nonneg h0 (Rat.le_of_lt hp)
    rw [e] at this
    exact_mod_cast this
  have k1 : k ≤ N := by
    have := Rat.mul_le_mul_of_nonneg_right h1 (Rat.le_of_lt hp)
    rw [e, Rat.one_mul] at this
    exact_mod_cast this
  rw [← Rat.divInt_eq_div]
  exact sz_divInt (by omega) (by omega) (by omega)

def fitsL (ds : List D) (n : Nat) : Bool := decide (ds.length = n) && (ds.all isRatB && ((ratsOf ds).all fun q => decide (0 ≤ q)) && decide ((ratsOf ds).sum = 1))
def fitsB (d : D) (n : Nat) : Bool := match d with
  | .tuple ds => fitsL ds n
  | _ => false
/-- the numbers of a datum's fractions are small -/
def smallL (B : Nat) (ds : List D) : Prop := ∀ d ∈ ds, ∀ q, d = rD q → sz B q
def small (B : Nat) : D → Prop
  | .tuple ds => smallL B ds
  | _ => True
theorem p_fits_shares (d : D) (n : Nat) {B : Nat} {Q : D → Prop} {x : EX} (hs : small B d) (hn : 1 + n * (B + 1) ≤ 8999) (hl : n ≤ 1000) (h : Q (.bool (fitsB d n))) : c_fits_shares [d, .int n] Q x := by
  refine ⟨rfl, ?_⟩
  cases d with
  | tuple ds =>
    simp only [LN, e_c, vOf.eq_1, vOf.eq_2, bOf.eq_1, bOf.eq_2, bOf.eq_3, e_v, b_v, e_f, e_op, e_un, o_add.eq_1, o_add.eq_2, o_add.eq_3, o_add.eq_4, o_add.eq_5, o_sub.eq_1, o_sub.eq_2, o_mul.eq_1, o_mul.eq_2, o_mul.eq_3, o_mul.eq_4, o_fdiv.eq_1, o_fdiv.eq_2, o_mod.eq_1, o_mod.eq_2, o_lt.eq_1, o_lt.eq_2, o_le.eq_1, o_le.eq_2, o_gt.eq_1, o_gt.eq_2, o_ge.eq_1, o_ge.eq_2, o_eq_int, o_ne_int, isNone.eq_1, isNone.eq_2, o_isN, o_notN, o_isB.eq_1, o_isB.eq_2, o_notB.eq_1, o_notB.eq_2, o_neg.eq_1, o_neg.eq_2, kOf.eq_1, kOf.eq_2, c_e, c_and, c_or, c_not, e_and, e_or, e_not, e_if, e_ch, a_nil, a_cons, isDraw.eq_1, isDraw.eq_2, a_draw, e_tup, listOf.eq_1, listOf.eq_2, f_op, f_lst, e_call, oOf.eq_1, oOf.eq_2, o_ix.eq_1, o_ix.eq_2, o_ix.eq_3, iOf.eq_1, iOf.eq_2, p_none, p_some, o_sl.eq_1, o_sl.eq_2, o_sl.eq_3, e_sl, o_len.eq_1, o_len.eq_2, o_len.eq_3, o_len.eq_4, o_abs.eq_1, o_abs.eq_2, o_int.eq_1, o_int.eq_2, o_int.eq_3, isTy.eq_1, isTy.eq_2, isTy.eq_3, isTy.eq_4, isTy.eq_5, isTy.eq_6, isTy.eq_7, o_isin, o_tuple.eq_1, o_tuple.eq_2, o_tuple.eq_3, seqQ.eq_1, seqQ.eq_2, seqQ.eq_3, f_list, someOf.eq_1, someOf.eq_2, o_sum, o_maxS, o_minS, o_all.eq_1, o_all.eq_2, o_any.eq_1, o_any.eq_2, o_max.eq_1, o_max.eq_2, o_min.eq_1, o_min.eq_2, o_min3.eq_1, o_min3.eq_2, e_op3, o_repr, i_seq, nOf.eq_1, nOf.eq_2, i_rng1, i_rng2, i_rngD, rgOf.eq_1, rgOf.eq_2, i_rngV, i_num, i_zip2, i_zip, i_enum, g_n, g_nil.eq_1, g_nil.eq_2, g_cons.eq_1, g_cons.eq_2, g_tup.eq_1, g_tup.eq_2, wipeE.eq_1, wipeE.eq_2, f_lc, c_yes, s_nil, s_seq, s_brk, s_cnt, s_set, s_own, s_rng, s_unp, s_par, s_if, s_ret, s_ex, frzA.eq_1, frzA.eq_2, frzA.eq_3, frz, s_frz, ownOf.eq_1, ownOf.eq_2, s_app, s_insert, ixOf, o_rev.eq_1, o_rev.eq_2, nstOf.eq_1, nstOf.eq_2, b_nix, s_sub2, s_app2, lcN.eq_1, lcN.eq_2, s_nst, s_sub, popQ, s_pop, s_popS, tup2.eq_1, tup2.eq_2, sub1, s_swp, sub2, s_swp2, f_lrng, s_for, isScr.eq_1, isScr.eq_2, s_draw, s_raise, strQ.eq_1, strQ.eq_2, intQ.eq_1, intQ.eq_2, s_raiseR, only, exM.eq_1, exM.eq_2, exM.eq_3, s_tryM, exMR.eq_1, exMR.eq_2, exMR.eq_3, s_tryMR, F_angle, startL.eq_1, startL.eq_2, startL.eq_3, start, List.set_cons_zero, List.set_cons_succ, List.getElem?_cons_zero, List.getElem?_cons_succ, List.length_cons, List.length_nil, List.cons_append, List.nil_append, List.replicate, if_true, if_false, Bool.false_eq_true, Bool.true_and, Bool.false_and, Bool.and_true, Bool.and_false, Bool.not_true, Bool.not_false, Bool.or_true, Bool.or_false, Bool.true_or, Bool.false_or, true_and, and_true, ite_self, reduceCtorEq, forL, lcL, T_fits_shares]
    by_cases hlen : ds.length = n
    · subst hlen
      simp only [LN, e_c, vOf.eq_1, vOf.eq_2, bOf.eq_1, bOf.eq_2, bOf.eq_3, e_v, b_v, e_f, e_op, e_un, o_add.eq_1, o_add.eq_2, o_add.eq_3, o_add.eq_4, o_add.eq_5, o_sub.eq_1, o_sub.eq_2, o_mul.eq_1, o_mul.eq_2, o_mul.eq_3, o_mul.eq_4, o_fdiv.eq_1, o_fdiv.eq_2, o_mod.eq_1, o_mod.eq_2, o_lt.eq_1, o_lt.eq_2, o_le.eq_1, o_le.eq_2, o_gt.eq_1, o_gt.eq_2, o_ge.eq_1, o_ge.eq_2, o_eq_int, o_ne_int, isNone.eq_1, isNone.eq_2, o_isN, o_notN, o_isB.eq_1, o_isB.eq_2, o_notB.eq_1, o_notB.eq_2, o_neg.eq_1, o_neg.eq_2, kOf.eq_1, kOf.eq_2, c_e, c_and, c_or, c_not, e_and, e_or, e_not, e_if, e_ch, a_nil, a_cons, isDraw.eq_1, isDraw.eq_2, a_draw, e_tup, listOf.eq_1, listOf.eq_2, f_op, f_lst, e_call, oOf.eq_1, oOf.eq_2, o_ix.eq_1, o_ix.eq_2, o_ix.eq_3, iOf.eq_1, iOf.eq_2, p_none, p_some, o_sl.eq_1, o_sl.eq_2, o_sl.eq_3, e_sl, o_len.eq_1, o_len.eq_2, o_len.eq_3, o_len.eq_4, o_abs.eq_1, o_abs.eq_2, o_int.eq_1, o_int.eq_2, o_int.eq_3, isTy.eq_1, isTy.eq_2, isTy.eq_3, isTy.eq_4, isTy.eq_5, isTy.eq_6, isTy.eq_7, o_isin, o_tuple.eq_1, o_tuple.eq_2, o_tuple.eq_3, seqQ.eq_1, seqQ.eq_2, seqQ.eq_3, f_list, someOf.eq_1, someOf.eq_2, o_sum, o_maxS, o_minS, o_all.eq_1, o_all.eq_2, o_any.eq_1, o_any.eq_2, o_max.eq_1, o_max.eq_2, o_min.eq_1, o_min.eq_2, o_min3.eq_1, o_min3.eq_2, e_op3, o_repr, i_seq, nOf.eq_1, nOf.eq_2, i_rng1, i_rng2, i_rngD, rgOf.eq_1, rgOf.eq_2, i_rngV, i_num, i_zip2, i_zip, i_enum, g_n, g_nil.eq_1, g_nil.eq_2, g_cons.eq_1, g_cons.eq_2, g_tup.eq_1, g_tup.eq_2, wipeE.eq_1, wipeE.eq_2, f_lc, c_yes, s_nil, s_seq, s_brk, s_cnt, s_set, s_own, s_rng, s_unp, s_par, s_if, s_ret, s_ex, frzA.eq_1, frzA.eq_2, frzA.eq_3, frz, s_frz, ownOf.eq_1, ownOf.eq_2, s_app, s_insert, ixOf, o_rev.eq_1, o_rev.eq_2, nstOf.eq_1, nstOf.eq_2, b_nix, s_sub2, s_app2, lcN.eq_1, lcN.eq_2, s_nst, s_sub, popQ, s_pop, s_popS, tup2.eq_1, tup2.eq_2, sub1, s_swp, sub2, s_swp2, f_lrng, s_for, isScr.eq_1, isScr.eq_2, s_draw, s_raise, strQ.eq_1, strQ.eq_2, intQ.eq_1, intQ.eq_2, s_raiseR, only, exM.eq_1, exM.eq_2, exM.eq_3, s_tryM, exMR.eq_1, exMR.eq_2, exMR.eq_3, s_tryMR, F_angle, startL.eq_1, startL.eq_2, startL.eq_3, start, List.set_cons_zero, List.set_cons_succ, List.getElem?_cons_zero, List.getElem?_cons_succ, List.length_cons, List.length_nil, List.cons_append, List.nil_append, List.replicate, if_true, if_false, Bool.false_eq_true, Bool.true_and, Bool.false_and, Bool.and_true, Bool.and_false, Bool.not_true, Bool.not_false, Bool.or_true, Bool.or_false, Bool.true_or, Bool.false_or, true_and, and_true, ite_self, reduceCtorEq, forL, lcL, beq_self_eq_true]
      refine ⟨Nat.le_trans hl (by decide), ?_⟩
      refine lc_fun (fun d => .bool (isRatB d && (match ratOf d with | some q => decide (0 ≤ q) | none => false))) ds [] (fun d hd P hP => ?_) ?_
      · simp only [LN, e_c, vOf.eq_1, vOf.eq_2, bOf.eq_1, bOf.eq_2, bOf.eq_3, e_v, b_v, e_f, e_op, e_un, o_add.eq_1, o_add.eq_2, o_add.eq_3, o_add.eq_4, o_add.eq_5, o_sub.eq_1, o_sub.eq_2, o_mul.eq_1, o_mul.eq_2, o_mul.eq_3, o_mul.eq_4, o_fdiv.eq_1, o_fdiv.eq_2, o_mod.eq_1, o_mod.eq_2, o_lt.eq_1, o_lt.eq_2, o_le.eq_1, o_le.eq_2, o_gt.eq_1, o_gt.eq_2, o_ge.eq_1, o_ge.eq_2, o_eq_int, o_ne_int, isNone.eq_1, isNone.eq_2, o_isN, o_notN, o_isB.eq_1, o_isB.eq_2, o_notB.eq_1, o_notB.eq_2, o_neg.eq_1, o_neg.eq_2, kOf.eq_1, kOf.eq_2, c_e, c_and, c_or, c_not, e_and, e_or, e_not, e_if, e_ch, a_nil, a_cons, isDraw.eq_1, isDraw.eq_2, a_draw, e_tup, listOf.eq_1, listOf.eq_2, f_op, f_lst, e_call, oOf.eq_1, oOf.eq_2, o_ix.eq_1, o_ix.eq_2, o_ix.eq_3, iOf.eq_1, iOf.eq_2, p_none, p_some, o_sl.eq_1, o_sl.eq_2, o_sl.eq_3, e_sl, o_len.eq_1, o_len.eq_2, o_len.eq_3, o_len.eq_4, o_abs.eq_1, o_abs.eq_2, o_int.eq_1, o_int.eq_2, o_int.eq_3, isTy.eq_1, isTy.eq_2, isTy.eq_3, isTy.eq_4, isTy.eq_5, isTy.eq_6, isTy.eq_7, o_isin, o_tuple.eq_1, o_tuple.eq_2, o_tuple.eq_3, seqQ.eq_1, seqQ.eq_2, seqQ.eq_3, f_list, someOf.eq_1, someOf.eq_2, o_sum, o_maxS, o_minS, o_all.eq_1, o_all.eq_2, o_any.eq_1, o_any.eq_2, o_max.eq_1, o_max.eq_2, o_min.eq_1, o_min.eq_2, o_min3.eq_1, o_min3.eq_2, e_op3, o_repr, i_seq, nOf.eq_1, nOf.eq_2, i_rng1, i_rng2, i_rngD, rgOf.eq_1, rgOf.eq_2, i_rngV, i_num, i_zip2, i_zip, i_enum, g_n, g_nil.eq_1, g_nil.eq_2, g_cons.eq_1, g_cons.eq_2, g_tup.eq_1, g_tup.eq_2, wipeE.eq_1, wipeE.eq_2, f_lc, c_yes, s_nil, s_seq, s_brk, s_cnt, s_set, s_own, s_rng, s_unp, s_par, s_if, s_ret, s_ex, frzA.eq_1, frzA.eq_2, frzA.eq_3, frz, s_frz, ownOf.eq_1, ownOf.eq_2, s_app, s_insert, ixOf, o_rev.eq_1, o_rev.eq_2, nstOf.eq_1, nstOf.eq_2, b_nix, s_sub2, s_app2, lcN.eq_1, lcN.eq_2, s_nst, s_sub, popQ, s_pop, s_popS, tup2.eq_1, tup2.eq_2, sub1, s_swp, sub2, s_swp2, f_lrng, s_for, isScr.eq_1, isScr.eq_2, s_draw, s_raise, strQ.eq_1, strQ.eq_2, intQ.eq_1, intQ.eq_2, s_raiseR, only, exM.eq_1, exM.eq_2, exM.eq_3, s_tryM, exMR.eq_1, exMR.eq_2, exMR.eq_3, s_tryMR, F_angle, startL.eq_1, startL.eq_2, startL.eq_3, start, List.set_cons_zero, List.set_cons_succ, List.getElem?_cons_zero, List.getElem?_cons_succ, List.length_cons, List.length_nil, List.cons_append, List.nil_append, List.replicate, if_true, if_false, Bool.false_eq_true, Bool.true_and, Bool.false_and, Bool.and_true, Bool.and_false, Bool.not_true, Bool.not_false, Bool.or_true, Bool.or_false, Bool.true_or, Bool.false_or, true_and, and_true, ite_self, reduceCtorEq, forL, lcL]
        refine p_is_ratio d ?_
        by_cases hr : isRatB d = true
        · obtain ⟨q, rfl⟩ := (isRat_iff d).mp hr
          rw [hr] at hP ⊢
          rw [ratOf_rD] at hP
          simp [rD, at_, num_nonneg] at hP ⊢
          exact hP
        · have hr' : isRatB d = false := by simpa using hr
          rw [hr'] at hP ⊢
          simpa using hP
      · rw [List.nil_append, boolsOf_map (fun d => isRatB d && (match ratOf d with | some q => decide (0 ≤ q) | none => false)) ds]
        simp only [someOf, kOf]
        by_cases hall : ds.all isRatB = true
        · have e := ratsOf_all hall
          have hpos : (ds.all fun d => isRatB d && (match ratOf d with | some q => decide (0 ≤ q) | none => false)) = (ratsOf ds).all fun q => decide (0 ≤ q) := by
            rw [e, ratsOf_map, List.all_map]
            congr 1
            funext q
            simp [Function.comp, isRat_rD, ratOf_rD]
          simp only [fitsB, fitsL, hall, decide_true, Bool.true_and] at h
          rw [show (ds.map fun d => isRatB d && (match ratOf d with | some q => decide (0 ≤ q) | none => false)).all id = (ratsOf ds).all fun q => decide (0 ≤ q) by rw [← hpos, List.all_map]; rfl]
          by_cases hp : ((ratsOf ds).all fun q => decide (0 ≤ q)) = true
          · rw [hp] at h ⊢
            simp only [if_true, Bool.true_and] at h ⊢
            have hs' : ∀ q ∈ ratsOf ds, sz B q := fun q hq => hs (rD q) (by rw [e]; exact List.mem_map.mpr ⟨q, hq, rfl⟩) q rfl
            have ll : (ratsOf ds).length = ds.length := by
              have := congrArg List.length e
              rw [List.length_map] at this
              exact this.symm
            have key := p_total false (ratsOf ds) (Q := fun v => o_eq v k_ONE Q) (x := x) hs' (by rw [ll]; exact hn) (by
              have : o_eq (rD (ratsOf ds).sum) (rD 1) Q := p_eq_rD h
              exact this)
            have e2 : seqOf false ((ratsOf ds).map rD) = .tuple ds := by rw [← e]; rfl
            rw [e2] at key
            exact key
          · have hp' : ((ratsOf ds).all fun q => decide (0 ≤ q)) = false := by simpa using hp
            rw [hp'] at h ⊢
            simpa using h
        · have hall' : ds.all isRatB = false := by simpa using hall
          simp only [fitsB, fitsL, hall', Bool.false_and, Bool.and_false] at h
          have e3 : (ds.map fun d => isRatB d && (match ratOf d with | some q => decide (0 ≤ q) | none => false)).all id = false := by
            rw [List.all_eq_false] at hall' ⊢
            obtain ⟨d, hd, hn⟩ := hall'
            refine ⟨_, List.mem_map.mpr ⟨d, hd, rfl⟩, ?_⟩
            have : isRatB d = false := by simpa using hn
            simp [this]
          rw [e3]
          simpa using h
    · have hi : ¬ ((ds.length : Int) = n) := by omega
      have hf : fitsL ds n = false := by simp [fitsL, hlen]
      simp [hi, fitsB, hf] at h ⊢
      exact h
  | _ => simpa [T_fits_shares, fitsB] using h
def densOk : D → Bool
  | .tuple ds => (ratsOf ds).all fun q => decide (q.den ≤ 1000)
  | _ => false
def isMovesB : D → Bool
  | .tuple rows => (decide (2 ≤ rows.length) && decide (rows.length ≤ 6)) && rows.all fun row => fitsB row rows.length && densOk row
  | _ => false
def small2 (B : Nat) : D → Prop
  | .tuple rows => ∀ row ∈ rows, small B row
  | _ => True
theorem fitsB_rats {d : D} {n : Nat} (h : fitsB d n = true) : ∃ qs : List Rat, d = .tuple (qs.map rD) ∧ qs.length = n ∧ (∀ q ∈ qs, 0 ≤ q) ∧ qs.sum = 1 := by
  unfold fitsB at h
  split at h
  · rename_i ds
    simp only [fitsL, Bool.and_eq_true, decide_eq_true_eq] at h
    obtain ⟨h1, ⟨h2, h3⟩, h4⟩ := h
    have e := ratsOf_all h2
    refine ⟨ratsOf ds, by rw [← e], ?_, fun q hq => ?_, h4⟩
    · rw [← h1]
      have := congrArg List.length e
      rw [List.length_map] at this
      exact this.symm
    · rw [List.all_eq_true] at h3
      exact of_decide_eq_true (h3 q hq)
  · cases h
theorem fitsB_of {qs : List Rat} {n : Nat} (h1 : qs.length = n) (h2 : ∀ q ∈ qs, 0 ≤ q) (h3 : qs.sum = 1) : fitsB (.tuple (qs.map rD)) n = true := by
  simp only [fitsB, fitsL, all_isRat, ratsOf_map, List.length_map, h1, h3, decide_true, Bool.true_and, Bool.and_true, List.all_eq_true, decide_eq_true_eq]
  exact h2
theorem p_is_moves (d : D) {B : Nat} {Q : D → Prop} {x : EX} (hs : small2 B d) (hB : 1 + 6 * (B + 1) ≤ 8999) (h : Q (.bool (isMovesB d))) : c_is_moves [d] Q x := by
  refine ⟨rfl, ?_⟩
  cases d with
  | tuple rows =>
    simp only [LN, e_c, vOf.eq_1, vOf.eq_2, bOf.eq_1, bOf.eq_2, bOf.eq_3, e_v, b_v, e_f, e_op, e_un, o_add.eq_1, o_add.eq_2, o_add.eq_3, o_add.eq_4, o_add.eq_5, o_sub.eq_1, o_sub.eq_2, o_mul.eq_1, o_mul.eq_2, o_mul.eq_3, o_mul.eq_4, o_fdiv.eq_1, o_fdiv.eq_2, o_mod.eq_1, o_mod.eq_2, o_lt.eq_1, o_lt.eq_2, o_le.eq_1, o_le.eq_2, o_gt.eq_1, o_gt.eq_2, o_ge.eq_1, o_ge.eq_2, o_eq_int, o_ne_int, isNone.eq_1, isNone.eq_2, o_isN, o_notN, o_isB.eq_1, o_isB.eq_2, o_notB.eq_1, o_notB.eq_2, o_neg.eq_1, o_neg.eq_2, kOf.eq_1, kOf.eq_2, c_e, c_and, c_or, c_not, e_and, e_or, e_not, e_if, e_ch, a_nil, a_cons, isDraw.eq_1, isDraw.eq_2, a_draw, e_tup, listOf.eq_1, listOf.eq_2, f_op, f_lst, e_call, oOf.eq_1, oOf.eq_2, o_ix.eq_1, o_ix.eq_2, o_ix.eq_3, iOf.eq_1, iOf.eq_2, p_none, p_some, o_sl.eq_1, o_sl.eq_2, o_sl.eq_3, e_sl, o_len.eq_1, o_len.eq_2, o_len.eq_3, o_len.eq_4, o_abs.eq_1, o_abs.eq_2, o_int.eq_1, o_int.eq_2, o_int.eq_3, isTy.eq_1, isTy.eq_2, isTy.eq_3, isTy.eq_4, isTy.eq_5, isTy.eq_6, isTy.eq_7, o_isin, o_tuple.eq_1, o_tuple.eq_2, o_tuple.eq_3, seqQ.eq_1, seqQ.eq_2, seqQ.eq_3, f_list, someOf.eq_1, someOf.eq_2, o_sum, o_maxS, o_minS, o_all.eq_1, o_all.eq_2, o_any.eq_1, o_any.eq_2, o_max.eq_1, o_max.eq_2, o_min.eq_1, o_min.eq_2, o_min3.eq_1, o_min3.eq_2, e_op3, o_repr, i_seq, nOf.eq_1, nOf.eq_2, i_rng1, i_rng2, i_rngD, rgOf.eq_1, rgOf.eq_2, i_rngV, i_num, i_zip2, i_zip, i_enum, g_n, g_nil.eq_1, g_nil.eq_2, g_cons.eq_1, g_cons.eq_2, g_tup.eq_1, g_tup.eq_2, wipeE.eq_1, wipeE.eq_2, f_lc, c_yes, s_nil, s_seq, s_brk, s_cnt, s_set, s_own, s_rng, s_unp, s_par, s_if, s_ret, s_ex, frzA.eq_1, frzA.eq_2, frzA.eq_3, frz, s_frz, ownOf.eq_1, ownOf.eq_2, s_app, s_insert, ixOf, o_rev.eq_1, o_rev.eq_2, nstOf.eq_1, nstOf.eq_2, b_nix, s_sub2, s_app2, lcN.eq_1, lcN.eq_2, s_nst, s_sub, popQ, s_pop, s_popS, tup2.eq_1, tup2.eq_2, sub1, s_swp, sub2, s_swp2, f_lrng, s_for, isScr.eq_1, isScr.eq_2, s_draw, s_raise, strQ.eq_1, strQ.eq_2, intQ.eq_1, intQ.eq_2, s_raiseR, only, exM.eq_1, exM.eq_2, exM.eq_3, s_tryM, exMR.eq_1, exMR.eq_2, exMR.eq_3, s_tryMR, F_angle, startL.eq_1, startL.eq_2, startL.eq_3, start, List.set_cons_zero, List.set_cons_succ, List.getElem?_cons_zero, List.getElem?_cons_succ, List.length_cons, List.length_nil, List.cons_append, List.nil_append, List.replicate, if_true, if_false, Bool.false_eq_true, Bool.true_and, Bool.false_and, Bool.and_true, Bool.and_false, Bool.not_true, Bool.not_false, Bool.or_true, Bool.or_false, Bool.true_or, Bool.false_or, true_and, and_true, ite_self, reduceCtorEq, forL, lcL, T_is_moves, k_FEWEST_CLASSES, k_MOST_CLASSES]
    by_cases h1 : 2 ≤ rows.length
    · have h1' : decide ((2 : Int) ≤ (rows.length : Int)) = true := by simp; omega
      rw [h1']
      simp only [LN, e_c, vOf.eq_1, vOf.eq_2, bOf.eq_1, bOf.eq_2, bOf.eq_3, e_v, b_v, e_f, e_op, e_un, o_add.eq_1, o_add.eq_2, o_add.eq_3, o_add.eq_4, o_add.eq_5, o_sub.eq_1, o_sub.eq_2, o_mul.eq_1, o_mul.eq_2, o_mul.eq_3, o_mul.eq_4, o_fdiv.eq_1, o_fdiv.eq_2, o_mod.eq_1, o_mod.eq_2, o_lt.eq_1, o_lt.eq_2, o_le.eq_1, o_le.eq_2, o_gt.eq_1, o_gt.eq_2, o_ge.eq_1, o_ge.eq_2, o_eq_int, o_ne_int, isNone.eq_1, isNone.eq_2, o_isN, o_notN, o_isB.eq_1, o_isB.eq_2, o_notB.eq_1, o_notB.eq_2, o_neg.eq_1, o_neg.eq_2, kOf.eq_1, kOf.eq_2, c_e, c_and, c_or, c_not, e_and, e_or, e_not, e_if, e_ch, a_nil, a_cons, isDraw.eq_1, isDraw.eq_2, a_draw, e_tup, listOf.eq_1, listOf.eq_2, f_op, f_lst, e_call, oOf.eq_1, oOf.eq_2, o_ix.eq_1, o_ix.eq_2, o_ix.eq_3, iOf.eq_1, iOf.eq_2, p_none, p_some, o_sl.eq_1, o_sl.eq_2, o_sl.eq_3, e_sl, o_len.eq_1, o_len.eq_2, o_len.eq_3, o_len.eq_4, o_abs.eq_1, o_abs.eq_2, o_int.eq_1, o_int.eq_2, o_int.eq_3, isTy.eq_1, isTy.eq_2, isTy.eq_3, isTy.eq_4, isTy.eq_5, isTy.eq_6, isTy.eq_7, o_isin, o_tuple.eq_1, o_tuple.eq_2, o_tuple.eq_3, seqQ.eq_1, seqQ.eq_2, seqQ.eq_3, f_list, someOf.eq_1, someOf.eq_2, o_sum, o_maxS, o_minS, o_all.eq_1, o_all.eq_2, o_any.eq_1, o_any.eq_2, o_max.eq_1, o_max.eq_2, o_min.eq_1, o_min.eq_2, o_min3.eq_1, o_min3.eq_2, e_op3, o_repr, i_seq, nOf.eq_1, nOf.eq_2, i_rng1, i_rng2, i_rngD, rgOf.eq_1, rgOf.eq_2, i_rngV, i_num, i_zip2, i_zip, i_enum, g_n, g_nil.eq_1, g_nil.eq_2, g_cons.eq_1, g_cons.eq_2, g_tup.eq_1, g_tup.eq_2, wipeE.eq_1, wipeE.eq_2, f_lc, c_yes, s_nil, s_seq, s_brk, s_cnt, s_set, s_own, s_rng, s_unp, s_par, s_if, s_ret, s_ex, frzA.eq_1, frzA.eq_2, frzA.eq_3, frz, s_frz, ownOf.eq_1, ownOf.eq_2, s_app, s_insert, ixOf, o_rev.eq_1, o_rev.eq_2, nstOf.eq_1, nstOf.eq_2, b_nix, s_sub2, s_app2, lcN.eq_1, lcN.eq_2, s_nst, s_sub, popQ, s_pop, s_popS, tup2.eq_1, tup2.eq_2, sub1, s_swp, sub2, s_swp2, f_lrng, s_for, isScr.eq_1, isScr.eq_2, s_draw, s_raise, strQ.eq_1, strQ.eq_2, intQ.eq_1, intQ.eq_2, s_raiseR, only, exM.eq_1, exM.eq_2, exM.eq_3, s_tryM, exMR.eq_1, exMR.eq_2, exMR.eq_3, s_tryMR, F_angle, startL.eq_1, startL.eq_2, startL.eq_3, start, List.set_cons_zero, List.set_cons_succ, List.getElem?_cons_zero, List.getElem?_cons_succ, List.length_cons, List.length_nil, List.cons_append, List.nil_append, List.replicate, if_true, if_false, Bool.false_eq_true, Bool.true_and, Bool.false_and, Bool.and_true, Bool.and_false, Bool.not_true, Bool.not_false, Bool.or_true, Bool.or_false, Bool.true_or, Bool.false_or, true_and, and_true, ite_self, reduceCtorEq, forL, lcL]
      by_cases h2 : rows.length ≤ 6
      · have h2' : decide ((rows.length : Int) ≤ 6) = true := by simp; omega
        rw [h2']
        simp only [LN, e_c, vOf.eq_1, vOf.eq_2, bOf.eq_1, bOf.eq_2, bOf.eq_3, e_v, b_v, e_f, e_op, e_un, o_add.eq_1, o_add.eq_2, o_add.eq_3, o_add.eq_4, o_add.eq_5, o_sub.eq_1, o_sub.eq_2, o_mul.eq_1, o_mul.eq_2, o_mul.eq_3, o_mul.eq_4, o_fdiv.eq_1, o_fdiv.eq_2, o_mod.eq_1, o_mod.eq_2, o_lt.eq_1, o_lt.eq_2, o_le.eq_1, o_le.eq_2, o_gt.eq_1, o_gt.eq_2, o_ge.eq_1, o_ge.eq_2, o_eq_int, o_ne_int, isNone.eq_1, isNone.eq_2, o_isN, o_notN, o_isB.eq_1, o_isB.eq_2, o_notB.eq_1, o_notB.eq_2, o_neg.eq_1, o_neg.eq_2, kOf.eq_1, kOf.eq_2, c_e, c_and, c_or, c_not, e_and, e_or, e_not, e_if, e_ch, a_nil, a_cons, isDraw.eq_1, isDraw.eq_2, a_draw, e_tup, listOf.eq_1, listOf.eq_2, f_op, f_lst, e_call, oOf.eq_1, oOf.eq_2, o_ix.eq_1, o_ix.eq_2, o_ix.eq_3, iOf.eq_1, iOf.eq_2, p_none, p_some, o_sl.eq_1, o_sl.eq_2, o_sl.eq_3, e_sl, o_len.eq_1, o_len.eq_2, o_len.eq_3, o_len.eq_4, o_abs.eq_1, o_abs.eq_2, o_int.eq_1, o_int.eq_2, o_int.eq_3, isTy.eq_1, isTy.eq_2, isTy.eq_3, isTy.eq_4, isTy.eq_5, isTy.eq_6, isTy.eq_7, o_isin, o_tuple.eq_1, o_tuple.eq_2, o_tuple.eq_3, seqQ.eq_1, seqQ.eq_2, seqQ.eq_3, f_list, someOf.eq_1, someOf.eq_2, o_sum, o_maxS, o_minS, o_all.eq_1, o_all.eq_2, o_any.eq_1, o_any.eq_2, o_max.eq_1, o_max.eq_2, o_min.eq_1, o_min.eq_2, o_min3.eq_1, o_min3.eq_2, e_op3, o_repr, i_seq, nOf.eq_1, nOf.eq_2, i_rng1, i_rng2, i_rngD, rgOf.eq_1, rgOf.eq_2, i_rngV, i_num, i_zip2, i_zip, i_enum, g_n, g_nil.eq_1, g_nil.eq_2, g_cons.eq_1, g_cons.eq_2, g_tup.eq_1, g_tup.eq_2, wipeE.eq_1, wipeE.eq_2, f_lc, c_yes, s_nil, s_seq, s_brk, s_cnt, s_set, s_own, s_rng, s_unp, s_par, s_if, s_ret, s_ex, frzA.eq_1, frzA.eq_2, frzA.eq_3, frz, s_frz, ownOf.eq_1, ownOf.eq_2, s_app, s_insert, ixOf, o_rev.eq_1, o_rev.eq_2, nstOf.eq_1, nstOf.eq_2, b_nix, s_sub2, s_app2, lcN.eq_1, lcN.eq_2, s_nst, s_sub, popQ, s_pop, s_popS, tup2.eq_1, tup2.eq_2, sub1, s_swp, sub2, s_swp2, f_lrng, s_for, isScr.eq_1, isScr.eq_2, s_draw, s_raise, strQ.eq_1, strQ.eq_2, intQ.eq_1, intQ.eq_2, s_raiseR, only, exM.eq_1, exM.eq_2, exM.eq_3, s_tryM, exMR.eq_1, exMR.eq_2, exMR.eq_3, s_tryMR, F_angle, startL.eq_1, startL.eq_2, startL.eq_3, start, List.set_cons_zero, List.set_cons_succ, List.getElem?_cons_zero, List.getElem?_cons_succ, List.length_cons, List.length_nil, List.cons_append, List.nil_append, List.replicate, if_true, if_false, Bool.false_eq_true, Bool.true_and, Bool.false_and, Bool.and_true, Bool.and_false, Bool.not_true, Bool.not_false, Bool.or_true, Bool.or_false, Bool.true_or, Bool.false_or, true_and, and_true, ite_self, reduceCtorEq, forL, lcL]
        refine ⟨by omega, ?_⟩
        refine lc_fun (fun row => .bool (fitsB row rows.length && densOk row)) rows [] (fun row hr P hP => ?_) ?_
        · simp only [LN, e_c, vOf.eq_1, vOf.eq_2, bOf.eq_1, bOf.eq_2, bOf.eq_3, e_v, b_v, e_f, e_op, e_un, o_add.eq_1, o_add.eq_2, o_add.eq_3, o_add.eq_4, o_add.eq_5, o_sub.eq_1, o_sub.eq_2, o_mul.eq_1, o_mul.eq_2, o_mul.eq_3, o_mul.eq_4, o_fdiv.eq_1, o_fdiv.eq_2, o_mod.eq_1, o_mod.eq_2, o_lt.eq_1, o_lt.eq_2, o_le.eq_1, o_le.eq_2, o_gt.eq_1, o_gt.eq_2, o_ge.eq_1, o_ge.eq_2, o_eq_int, o_ne_int, isNone.eq_1, isNone.eq_2, o_isN, o_notN, o_isB.eq_1, o_isB.eq_2, o_notB.eq_1, o_notB.eq_2, o_neg.eq_1, o_neg.eq_2, kOf.eq_1, kOf.eq_2, c_e, c_and, c_or, c_not, e_and, e_or, e_not, e_if, e_ch, a_nil, a_cons, isDraw.eq_1, isDraw.eq_2, a_draw, e_tup, listOf.eq_1, listOf.eq_2, f_op, f_lst, e_call, oOf.eq_1, oOf.eq_2, o_ix.eq_1, o_ix.eq_2, o_ix.eq_3, iOf.eq_1, iOf.eq_2, p_none, p_some, o_sl.eq_1, o_sl.eq_2, o_sl.eq_3, e_sl, o_len.eq_1, o_len.eq_2, o_len.eq_3, o_len.eq_4, o_abs.eq_1, o_abs.eq_2, o_int.eq_1, o_int.eq_2, o_int.eq_3, isTy.eq_1, isTy.eq_2, isTy.eq_3, isTy.eq_4, isTy.eq_5, isTy.eq_6, isTy.eq_7, o_isin, o_tuple.eq_1, o_tuple.eq_2, o_tuple.eq_3, seqQ.eq_1, seqQ.eq_2, seqQ.eq_3, f_list, someOf.eq_1, someOf.eq_2, o_sum, o_maxS, o_minS, o_all.eq_1, o_all.eq_2, o_any.eq_1, o_any.eq_2, o_max.eq_1, o_max.eq_2, o_min.eq_1, o_min.eq_2, o_min3.eq_1, o_min3.eq_2, e_op3, o_repr, i_seq, nOf.eq_1, nOf.eq_2, i_rng1, i_rng2, i_rngD, rgOf.eq_1, rgOf.eq_2, i_rngV, i_num, i_zip2, i_zip, i_enum, g_n, g_nil.eq_1, g_nil.eq_2, g_cons.eq_1, g_cons.eq_2, g_tup.eq_1, g_tup.eq_2, wipeE.eq_1, wipeE.eq_2, f_lc, c_yes, s_nil, s_seq, s_brk, s_cnt, s_set, s_own, s_rng, s_unp, s_par, s_if, s_ret, s_ex, frzA.eq_1, frzA.eq_2, frzA.eq_3, frz, s_frz, ownOf.eq_1, ownOf.eq_2, s_app, s_insert, ixOf, o_rev.eq_1, o_rev.eq_2, nstOf.eq_1, nstOf.eq_2, b_nix, s_sub2, s_app2, lcN.eq_1, lcN.eq_2, s_nst, s_sub, popQ, s_pop, s_popS, tup2.eq_1, tup2.eq_2, sub1, s_swp, sub2, s_swp2, f_lrng, s_for, isScr.eq_1, isScr.eq_2, s_draw, s_raise, strQ.eq_1, strQ.eq_2, intQ.eq_1, intQ.eq_2, s_raiseR, only, exM.eq_1, exM.eq_2, exM.eq_3, s_tryM, exMR.eq_1, exMR.eq_2, exMR.eq_3, s_tryMR, F_angle, startL.eq_1, startL.eq_2, startL.eq_3, start, List.set_cons_zero, List.set_cons_succ, List.getElem?_cons_zero, List.getElem?_cons_succ, List.length_cons, List.length_nil, List.cons_append, List.nil_append, List.replicate, if_true, if_false, Bool.false_eq_true, Bool.true_and, Bool.false_and, Bool.and_true, Bool.and_false, Bool.not_true, Bool.not_false, Bool.or_true, Bool.or_false, Bool.true_or, Bool.false_or, true_and, and_true, ite_self, reduceCtorEq, forL, lcL]
          refine p_fits_shares row rows.length (hs row hr) (Nat.le_trans (Nat.add_le_add_left (Nat.mul_le_mul_right _ h2) 1) hB) (by omega) ?_
          by_cases hf : fitsB row rows.length = true
          · rw [hf] at hP ⊢
            simp only [LN, e_c, vOf.eq_1, vOf.eq_2, bOf.eq_1, bOf.eq_2, bOf.eq_3, e_v, b_v, e_f, e_op, e_un, o_add.eq_1, o_add.eq_2, o_add.eq_3, o_add.eq_4, o_add.eq_5, o_sub.eq_1, o_sub.eq_2, o_mul.eq_1, o_mul.eq_2, o_mul.eq_3, o_mul.eq_4, o_fdiv.eq_1, o_fdiv.eq_2, o_mod.eq_1, o_mod.eq_2, o_lt.eq_1, o_lt.eq_2, o_le.eq_1, o_le.eq_2, o_gt.eq_1, o_gt.eq_2, o_ge.eq_1, o_ge.eq_2, o_eq_int, o_ne_int, isNone.eq_1, isNone.eq_2, o_isN, o_notN, o_isB.eq_1, o_isB.eq_2, o_notB.eq_1, o_notB.eq_2, o_neg.eq_1, o_neg.eq_2, kOf.eq_1, kOf.eq_2, c_e, c_and, c_or, c_not, e_and, e_or, e_not, e_if, e_ch, a_nil, a_cons, isDraw.eq_1, isDraw.eq_2, a_draw, e_tup, listOf.eq_1, listOf.eq_2, f_op, f_lst, e_call, oOf.eq_1, oOf.eq_2, o_ix.eq_1, o_ix.eq_2, o_ix.eq_3, iOf.eq_1, iOf.eq_2, p_none, p_some, o_sl.eq_1, o_sl.eq_2, o_sl.eq_3, e_sl, o_len.eq_1, o_len.eq_2, o_len.eq_3, o_len.eq_4, o_abs.eq_1, o_abs.eq_2, o_int.eq_1, o_int.eq_2, o_int.eq_3, isTy.eq_1, isTy.eq_2, isTy.eq_3, isTy.eq_4, isTy.eq_5, isTy.eq_6, isTy.eq_7, o_isin, o_tuple.eq_1, o_tuple.eq_2, o_tuple.eq_3, seqQ.eq_1, seqQ.eq_2, seqQ.eq_3, f_list, someOf.eq_1, someOf.eq_2, o_sum, o_maxS, o_minS, o_all.eq_1, o_all.eq_2, o_any.eq_1, o_any.eq_2, o_max.eq_1, o_max.eq_2, o_min.eq_1, o_min.eq_2, o_min3.eq_1, o_min3.eq_2, e_op3, o_repr, i_seq, nOf.eq_1, nOf.eq_2, i_rng1, i_rng2, i_rngD, rgOf.eq_1, rgOf.eq_2, i_rngV, i_num, i_zip2, i_zip, i_enum, g_n, g_nil.eq_1, g_nil.eq_2, g_cons.eq_1, g_cons.eq_2, g_tup.eq_1, g_tup.eq_2, wipeE.eq_1, wipeE.eq_2, f_lc, c_yes, s_nil, s_seq, s_brk, s_cnt, s_set, s_own, s_rng, s_unp, s_par, s_if, s_ret, s_ex, frzA.eq_1, frzA.eq_2, frzA.eq_3, frz, s_frz, ownOf.eq_1, ownOf.eq_2, s_app, s_insert, ixOf, o_rev.eq_1, o_rev.eq_2, nstOf.eq_1, nstOf.eq_2, b_nix, s_sub2, s_app2, lcN.eq_1, lcN.eq_2, s_nst, s_sub, popQ, s_pop, s_popS, tup2.eq_1, tup2.eq_2, sub1, s_swp, sub2, s_swp2, f_lrng, s_for, isScr.eq_1, isScr.eq_2, s_draw, s_raise, strQ.eq_1, strQ.eq_2, intQ.eq_1, intQ.eq_2, s_raiseR, only, exM.eq_1, exM.eq_2, exM.eq_3, s_tryM, exMR.eq_1, exMR.eq_2, exMR.eq_3, s_tryMR, F_angle, startL.eq_1, startL.eq_2, startL.eq_3, start, List.set_cons_zero, List.set_cons_succ, List.getElem?_cons_zero, List.getElem?_cons_succ, List.length_cons, List.length_nil, List.cons_append, List.nil_append, List.replicate, if_true, if_false, Bool.false_eq_true, Bool.true_and, Bool.false_and, Bool.and_true, Bool.and_false, Bool.not_true, Bool.not_false, Bool.or_true, Bool.or_false, Bool.true_or, Bool.false_or, true_and, and_true, ite_self, reduceCtorEq, forL, lcL] at hP ⊢
            obtain ⟨qs, rfl, hl, _⟩ := fitsB_rats hf
            have hle : qs.length ≤ 1000000 := by omega
            simp only [LN, e_c, vOf.eq_1, vOf.eq_2, bOf.eq_1, bOf.eq_2, bOf.eq_3, e_v, b_v, e_f, e_op, e_un, o_add.eq_1, o_add.eq_2, o_add.eq_3, o_add.eq_4, o_add.eq_5, o_sub.eq_1, o_sub.eq_2, o_mul.eq_1, o_mul.eq_2, o_mul.eq_3, o_mul.eq_4, o_fdiv.eq_1, o_fdiv.eq_2, o_mod.eq_1, o_mod.eq_2, o_lt.eq_1, o_lt.eq_2, o_le.eq_1, o_le.eq_2, o_gt.eq_1, o_gt.eq_2, o_ge.eq_1, o_ge.eq_2, o_eq_int, o_ne_int, isNone.eq_1, isNone.eq_2, o_isN, o_notN, o_isB.eq_1, o_isB.eq_2, o_notB.eq_1, o_notB.eq_2, o_neg.eq_1, o_neg.eq_2, kOf.eq_1, kOf.eq_2, c_e, c_and, c_or, c_not, e_and, e_or, e_not, e_if, e_ch, a_nil, a_cons, isDraw.eq_1, isDraw.eq_2, a_draw, e_tup, listOf.eq_1, listOf.eq_2, f_op, f_lst, e_call, oOf.eq_1, oOf.eq_2, o_ix.eq_1, o_ix.eq_2, o_ix.eq_3, iOf.eq_1, iOf.eq_2, p_none, p_some, o_sl.eq_1, o_sl.eq_2, o_sl.eq_3, e_sl, o_len.eq_1, o_len.eq_2, o_len.eq_3, o_len.eq_4, o_abs.eq_1, o_abs.eq_2, o_int.eq_1, o_int.eq_2, o_int.eq_3, isTy.eq_1, isTy.eq_2, isTy.eq_3, isTy.eq_4, isTy.eq_5, isTy.eq_6, isTy.eq_7, o_isin, o_tuple.eq_1, o_tuple.eq_2, o_tuple.eq_3, seqQ.eq_1, seqQ.eq_2, seqQ.eq_3, f_list, someOf.eq_1, someOf.eq_2, o_sum, o_maxS, o_minS, o_all.eq_1, o_all.eq_2, o_any.eq_1, o_any.eq_2, o_max.eq_1, o_max.eq_2, o_min.eq_1, o_min.eq_2, o_min3.eq_1, o_min3.eq_2, e_op3, o_repr, i_seq, nOf.eq_1, nOf.eq_2, i_rng1, i_rng2, i_rngD, rgOf.eq_1, rgOf.eq_2, i_rngV, i_num, i_zip2, i_zip, i_enum, g_n, g_nil.eq_1, g_nil.eq_2, g_cons.eq_1, g_cons.eq_2, g_tup.eq_1, g_tup.eq_2, wipeE.eq_1, wipeE.eq_2, f_lc, c_yes, s_nil, s_seq, s_brk, s_cnt, s_set, s_own, s_rng, s_unp, s_par, s_if, s_ret, s_ex, frzA.eq_1, frzA.eq_2, frzA.eq_3, frz, s_frz, ownOf.eq_1, ownOf.eq_2, s_app, s_insert, ixOf, o_rev.eq_1, o_rev.eq_2, nstOf.eq_1, nstOf.eq_2, b_nix, s_sub2, s_app2, lcN.eq_1, lcN.eq_2, s_nst, s_sub, popQ, s_pop, s_popS, tup2.eq_1, tup2.eq_2, sub1, s_swp, sub2, s_swp2, f_lrng, s_for, isScr.eq_1, isScr.eq_2, s_draw, s_raise, strQ.eq_1, strQ.eq_2, intQ.eq_1, intQ.eq_2, s_raiseR, only, exM.eq_1, exM.eq_2, exM.eq_3, s_tryM, exMR.eq_1, exMR.eq_2, exMR.eq_3, s_tryMR, F_angle, startL.eq_1, startL.eq_2, startL.eq_3, start, List.set_cons_zero, List.set_cons_succ, List.getElem?_cons_zero, List.getElem?_cons_succ, List.length_cons, List.length_nil, List.cons_append, List.nil_append, List.replicate, if_true, if_false, Bool.false_eq_true, Bool.true_and, Bool.false_and, Bool.and_true, Bool.and_false, Bool.not_true, Bool.not_false, Bool.or_true, Bool.or_false, Bool.true_or, Bool.false_or, true_and, and_true, ite_self, reduceCtorEq, forL, lcL, List.length_map]
            refine ⟨hle, ?_⟩
            refine lc_fun (fun d => .bool (match ratOf d with | some q => decide (q.den ≤ 1000) | none => false)) (qs.map rD) [] (fun d hd P hP => ?_) ?_
            · obtain ⟨q, _, rfl⟩ := List.mem_map.mp hd
              rw [ratOf_rD] at hP
              have e : decide ((q.den : Int) ≤ 1000) = decide (q.den ≤ 1000) := by rw [decide_eq_decide]; omega
              simp only [LN, e_c, vOf.eq_1, vOf.eq_2, bOf.eq_1, bOf.eq_2, bOf.eq_3, e_v, b_v, e_f, e_op, e_un, o_add.eq_1, o_add.eq_2, o_add.eq_3, o_add.eq_4, o_add.eq_5, o_sub.eq_1, o_sub.eq_2, o_mul.eq_1, o_mul.eq_2, o_mul.eq_3, o_mul.eq_4, o_fdiv.eq_1, o_fdiv.eq_2, o_mod.eq_1, o_mod.eq_2, o_lt.eq_1, o_lt.eq_2, o_le.eq_1, o_le.eq_2, o_gt.eq_1, o_gt.eq_2, o_ge.eq_1, o_ge.eq_2, o_eq_int, o_ne_int, isNone.eq_1, isNone.eq_2, o_isN, o_notN, o_isB.eq_1, o_isB.eq_2, o_notB.eq_1, o_notB.eq_2, o_neg.eq_1, o_neg.eq_2, kOf.eq_1, kOf.eq_2, c_e, c_and, c_or, c_not, e_and, e_or, e_not, e_if, e_ch, a_nil, a_cons, isDraw.eq_1, isDraw.eq_2, a_draw, e_tup, listOf.eq_1, listOf.eq_2, f_op, f_lst, e_call, oOf.eq_1, oOf.eq_2, o_ix.eq_1, o_ix.eq_2, o_ix.eq_3, iOf.eq_1, iOf.eq_2, p_none, p_some, o_sl.eq_1, o_sl.eq_2, o_sl.eq_3, e_sl, o_len.eq_1, o_len.eq_2, o_len.eq_3, o_len.eq_4, o_abs.eq_1, o_abs.eq_2, o_int.eq_1, o_int.eq_2, o_int.eq_3, isTy.eq_1, isTy.eq_2, isTy.eq_3, isTy.eq_4, isTy.eq_5, isTy.eq_6, isTy.eq_7, o_isin, o_tuple.eq_1, o_tuple.eq_2, o_tuple.eq_3, seqQ.eq_1, seqQ.eq_2, seqQ.eq_3, f_list, someOf.eq_1, someOf.eq_2, o_sum, o_maxS, o_minS, o_all.eq_1, o_all.eq_2, o_any.eq_1, o_any.eq_2, o_max.eq_1, o_max.eq_2, o_min.eq_1, o_min.eq_2, o_min3.eq_1, o_min3.eq_2, e_op3, o_repr, i_seq, nOf.eq_1, nOf.eq_2, i_rng1, i_rng2, i_rngD, rgOf.eq_1, rgOf.eq_2, i_rngV, i_num, i_zip2, i_zip, i_enum, g_n, g_nil.eq_1, g_nil.eq_2, g_cons.eq_1, g_cons.eq_2, g_tup.eq_1, g_tup.eq_2, wipeE.eq_1, wipeE.eq_2, f_lc, c_yes, s_nil, s_seq, s_brk, s_cnt, s_set, s_own, s_rng, s_unp, s_par, s_if, s_ret, s_ex, frzA.eq_1, frzA.eq_2, frzA.eq_3, frz, s_frz, ownOf.eq_1, ownOf.eq_2, s_app, s_insert, ixOf, o_rev.eq_1, o_rev.eq_2, nstOf.eq_1, nstOf.eq_2, b_nix, s_sub2, s_app2, lcN.eq_1, lcN.eq_2, s_nst, s_sub, popQ, s_pop, s_popS, tup2.eq_1, tup2.eq_2, sub1, s_swp, sub2, s_swp2, f_lrng, s_for, isScr.eq_1, isScr.eq_2, s_draw, s_raise, strQ.eq_1, strQ.eq_2, intQ.eq_1, intQ.eq_2, s_raiseR, only, exM.eq_1, exM.eq_2, exM.eq_3, s_tryM, exMR.eq_1, exMR.eq_2, exMR.eq_3, s_tryMR, F_angle, startL.eq_1, startL.eq_2, startL.eq_3, start, List.set_cons_zero, List.set_cons_succ, List.getElem?_cons_zero, List.getElem?_cons_succ, List.length_cons, List.length_nil, List.cons_append, List.nil_append, List.replicate, if_true, if_false, Bool.false_eq_true, Bool.true_and, Bool.false_and, Bool.and_true, Bool.and_false, Bool.not_true, Bool.not_false, Bool.or_true, Bool.or_false, Bool.true_or, Bool.false_or, true_and, and_true, ite_self, reduceCtorEq, forL, lcL, rD, at_, k_MOST_LOWER, e] at hP ⊢
              simpa [e] using hP
            · rw [List.nil_append, boolsOf_map (fun d => match ratOf d with | some q => decide (q.den ≤ 1000) | none => false)]
              simp only [someOf]
              simp only [densOk, ratsOf_map] at hP
              have e : ((qs.map rD).map fun d => match ratOf d with | some q => decide (q.den ≤ 1000) | none => false).all id = qs.all fun q => decide (q.den ≤ 1000) := by
                rw [List.map_map, List.all_map]
                congr 1
                funext q
                simp [Function.comp, ratOf_rD]
              rw [e]
              exact hP
          · have hf' : fitsB row rows.length = false := by simpa using hf
            rw [hf'] at hP ⊢
            simpa only [LN, e_c, vOf.eq_1, vOf.eq_2, bOf.eq_1, bOf.eq_2, bOf.eq_3, e_v, b_v, e_f, e_op, e_un, o_add.eq_1, o_add.eq_2, o_add.eq_3, o_add.eq_4, o_add.eq_5, o_sub.eq_1, o_sub.eq_2, o_mul.eq_1, o_mul.eq_2, o_mul.eq_3, o_mul.eq_4, o_fdiv.eq_1, o_fdiv.eq_2, o_mod.eq_1, o_mod.eq_2, o_lt.eq_1, o_lt.eq_2, o_le.eq_1, o_le.eq_2, o_gt.eq_1, o_gt.eq_2, o_ge.eq_1, o_ge.eq_2, o_eq_int, o_ne_int, isNone.eq_1, isNone.eq_2, o_isN, o_notN, o_isB.eq_1, o_isB.eq_2, o_notB.eq_1, o_notB.eq_2, o_neg.eq_1, o_neg.eq_2, kOf.eq_1, kOf.eq_2, c_e, c_and, c_or, c_not, e_and, e_or, e_not, e_if, e_ch, a_nil, a_cons, isDraw.eq_1, isDraw.eq_2, a_draw, e_tup, listOf.eq_1, listOf.eq_2, f_op, f_lst, e_call, oOf.eq_1, oOf.eq_2, o_ix.eq_1, o_ix.eq_2, o_ix.eq_3, iOf.eq_1, iOf.eq_2, p_none, p_some, o_sl.eq_1, o_sl.eq_2, o_sl.eq_3, e_sl, o_len.eq_1, o_len.eq_2, o_len.eq_3, o_len.eq_4, o_abs.eq_1, o_abs.eq_2, o_int.eq_1, o_int.eq_2, o_int.eq_3, isTy.eq_1, isTy.eq_2, isTy.eq_3, isTy.eq_4, isTy.eq_5, isTy.eq_6, isTy.eq_7, o_isin, o_tuple.eq_1, o_tuple.eq_2, o_tuple.eq_3, seqQ.eq_1, seqQ.eq_2, seqQ.eq_3, f_list, someOf.eq_1, someOf.eq_2, o_sum, o_maxS, o_minS, o_all.eq_1, o_all.eq_2, o_any.eq_1, o_any.eq_2, o_max.eq_1, o_max.eq_2, o_min.eq_1, o_min.eq_2, o_min3.eq_1, o_min3.eq_2, e_op3, o_repr, i_seq, nOf.eq_1, nOf.eq_2, i_rng1, i_rng2, i_rngD, rgOf.eq_1, rgOf.eq_2, i_rngV, i_num, i_zip2, i_zip, i_enum, g_n, g_nil.eq_1, g_nil.eq_2, g_cons.eq_1, g_cons.eq_2, g_tup.eq_1, g_tup.eq_2, wipeE.eq_1, wipeE.eq_2, f_lc, c_yes, s_nil, s_seq, s_brk, s_cnt, s_set, s_own, s_rng, s_unp, s_par, s_if, s_ret, s_ex, frzA.eq_1, frzA.eq_2, frzA.eq_3, frz, s_frz, ownOf.eq_1, ownOf.eq_2, s_app, s_insert, ixOf, o_rev.eq_1, o_rev.eq_2, nstOf.eq_1, nstOf.eq_2, b_nix, s_sub2, s_app2, lcN.eq_1, lcN.eq_2, s_nst, s_sub, popQ, s_pop, s_popS, tup2.eq_1, tup2.eq_2, sub1, s_swp, sub2, s_swp2, f_lrng, s_for, isScr.eq_1, isScr.eq_2, s_draw, s_raise, strQ.eq_1, strQ.eq_2, intQ.eq_1, intQ.eq_2, s_raiseR, only, exM.eq_1, exM.eq_2, exM.eq_3, s_tryM, exMR.eq_1, exMR.eq_2, exMR.eq_3, s_tryMR, F_angle, startL.eq_1, startL.eq_2, startL.eq_3, start, List.set_cons_zero, List.set_cons_succ, List.getElem?_cons_zero, List.getElem?_cons_succ, List.length_cons, List.length_nil, List.cons_append, List.nil_append, List.replicate, if_true, if_false, Bool.false_eq_true, Bool.true_and, Bool.false_and, Bool.and_true, Bool.and_false, Bool.not_true, Bool.not_false, Bool.or_true, Bool.or_false, Bool.true_or, Bool.false_or, true_and, and_true, ite_self, reduceCtorEq, forL, lcL] using hP
        · rw [List.nil_append, boolsOf_map (fun row => fitsB row rows.length && densOk row)]
          simp only [someOf]
          have e : (rows.map fun row => fitsB row rows.length && densOk row).all id = rows.all fun row => fitsB row rows.length && densOk row := by
            rw [List.all_map]; rfl
          rw [e]
          simpa only [isMovesB, h1, h2, decide_true, Bool.true_and] using h
      · have h2' : decide ((rows.length : Int) ≤ 6) = false := by simp; omega
        rw [h2']
        simpa only [LN, e_c, vOf.eq_1, vOf.eq_2, bOf.eq_1, bOf.eq_2, bOf.eq_3, e_v, b_v, e_f, e_op, e_un, o_add.eq_1, o_add.eq_2, o_add.eq_3, o_add.eq_4, o_add.eq_5, o_sub.eq_1, o_sub.eq_2, o_mul.eq_1, o_mul.eq_2, o_mul.eq_3, o_mul.eq_4, o_fdiv.eq_1, o_fdiv.eq_2, o_mod.eq_1, o_mod.eq_2, o_lt.eq_1, o_lt.eq_2, o_le.eq_1, o_le.eq_2, o_gt.eq_1, o_gt.eq_2, o_ge.eq_1, o_ge.eq_2, o_eq_int, o_ne_int, isNone.eq_1, isNone.eq_2, o_isN, o_notN, o_isB.eq_1, o_isB.eq_2, o_notB.eq_1, o_notB.eq_2, o_neg.eq_1, o_neg.eq_2, kOf.eq_1, kOf.eq_2, c_e, c_and, c_or, c_not, e_and, e_or, e_not, e_if, e_ch, a_nil, a_cons, isDraw.eq_1, isDraw.eq_2, a_draw, e_tup, listOf.eq_1, listOf.eq_2, f_op, f_lst, e_call, oOf.eq_1, oOf.eq_2, o_ix.eq_1, o_ix.eq_2, o_ix.eq_3, iOf.eq_1, iOf.eq_2, p_none, p_some, o_sl.eq_1, o_sl.eq_2, o_sl.eq_3, e_sl, o_len.eq_1, o_len.eq_2, o_len.eq_3, o_len.eq_4, o_abs.eq_1, o_abs.eq_2, o_int.eq_1, o_int.eq_2, o_int.eq_3, isTy.eq_1, isTy.eq_2, isTy.eq_3, isTy.eq_4, isTy.eq_5, isTy.eq_6, isTy.eq_7, o_isin, o_tuple.eq_1, o_tuple.eq_2, o_tuple.eq_3, seqQ.eq_1, seqQ.eq_2, seqQ.eq_3, f_list, someOf.eq_1, someOf.eq_2, o_sum, o_maxS, o_minS, o_all.eq_1, o_all.eq_2, o_any.eq_1, o_any.eq_2, o_max.eq_1, o_max.eq_2, o_min.eq_1, o_min.eq_2, o_min3.eq_1, o_min3.eq_2, e_op3, o_repr, i_seq, nOf.eq_1, nOf.eq_2, i_rng1, i_rng2, i_rngD, rgOf.eq_1, rgOf.eq_2, i_rngV, i_num, i_zip2, i_zip, i_enum, g_n, g_nil.eq_1, g_nil.eq_2, g_cons.eq_1, g_cons.eq_2, g_tup.eq_1, g_tup.eq_2, wipeE.eq_1, wipeE.eq_2, f_lc, c_yes, s_nil, s_seq, s_brk, s_cnt, s_set, s_own, s_rng, s_unp, s_par, s_if, s_ret, s_ex, frzA.eq_1, frzA.eq_2, frzA.eq_3, frz, s_frz, ownOf.eq_1, ownOf.eq_2, s_app, s_insert, ixOf, o_rev.eq_1, o_rev.eq_2, nstOf.eq_1, nstOf.eq_2, b_nix, s_sub2, s_app2, lcN.eq_1, lcN.eq_2, s_nst, s_sub, popQ, s_pop, s_popS, tup2.eq_1, tup2.eq_2, sub1, s_swp, sub2, s_swp2, f_lrng, s_for, isScr.eq_1, isScr.eq_2, s_draw, s_raise, strQ.eq_1, strQ.eq_2, intQ.eq_1, intQ.eq_2, s_raiseR, only, exM.eq_1, exM.eq_2, exM.eq_3, s_tryM, exMR.eq_1, exMR.eq_2, exMR.eq_3, s_tryMR, F_angle, startL.eq_1, startL.eq_2, startL.eq_3, start, List.set_cons_zero, List.set_cons_succ, List.getElem?_cons_zero, List.getElem?_cons_succ, List.length_cons, List.length_nil, List.cons_append, List.nil_append, List.replicate, if_true, if_false, Bool.false_eq_true, Bool.true_and, Bool.false_and, Bool.and_true, Bool.and_false, Bool.not_true, Bool.not_false, Bool.or_true, Bool.or_false, Bool.true_or, Bool.false_or, true_and, and_true, ite_self, reduceCtorEq, forL, lcL, isMovesB, h2, decide_false] using h
    · have h1' : decide ((2 : Int) ≤ (rows.length : Int)) = false := by simp; omega
      rw [h1']
      simpa only [LN, e_c, vOf.eq_1, vOf.eq_2, bOf.eq_1, bOf.eq_2, bOf.eq_3, e_v, b_v, e_f, e_op, e_un, o_add.eq_1, o_add.eq_2, o_add.eq_3, o_add.eq_4, o_add.eq_5, o_sub.eq_1, o_sub.eq_2, o_mul.eq_1, o_mul.eq_2, o_mul.eq_3, o_mul.eq_4, o_fdiv.eq_1, o_fdiv.eq_2, o_mod.eq_1, o_mod.eq_2, o_lt.eq_1, o_lt.eq_2, o_le.eq_1, o_le.eq_2, o_gt.eq_1, o_gt.eq_2, o_ge.eq_1, o_ge.eq_2, o_eq_int, o_ne_int, isNone.eq_1, isNone.eq_2, o_isN, o_notN, o_isB.eq_1, o_isB.eq_2, o_notB.eq_1, o_notB.eq_2, o_neg.eq_1, o_neg.eq_2, kOf.eq_1, kOf.eq_2, c_e, c_and, c_or, c_not, e_and, e_or, e_not, e_if, e_ch, a_nil, a_cons, isDraw.eq_1, isDraw.eq_2, a_draw, e_tup, listOf.eq_1, listOf.eq_2, f_op, f_lst, e_call, oOf.eq_1, oOf.eq_2, o_ix.eq_1, o_ix.eq_2, o_ix.eq_3, iOf.eq_1, iOf.eq_2, p_none, p_some, o_sl.eq_1, o_sl.eq_2, o_sl.eq_3, e_sl, o_len.eq_1, o_len.eq_2, o_len.eq_3, o_len.eq_4, o_abs.eq_1, o_abs.eq_2, o_int.eq_1, o_int.eq_2, o_int.eq_3, isTy.eq_1, isTy.eq_2, isTy.eq_3, isTy.eq_4, isTy.eq_5, isTy.eq_6, isTy.eq_7, o_isin, o_tuple.eq_1, o_tuple.eq_2, o_tuple.eq_3, seqQ.eq_1, seqQ.eq_2, seqQ.eq_3, f_list, someOf.eq_1, someOf.eq_2, o_sum, o_maxS, o_minS, o_all.eq_1, o_all.eq_2, o_any.eq_1, o_any.eq_2, o_max.eq_1, o_max.eq_2, o_min.eq_1, o_min.eq_2, o_min3.eq_1, o_min3.eq_2, e_op3, o_repr, i_seq, nOf.eq_1, nOf.eq_2, i_rng1, i_rng2, i_rngD, rgOf.eq_1, rgOf.eq_2, i_rngV, i_num, i_zip2, i_zip, i_enum, g_n, g_nil.eq_1, g_nil.eq_2, g_cons.eq_1, g_cons.eq_2, g_tup.eq_1, g_tup.eq_2, wipeE.eq_1, wipeE.eq_2, f_lc, c_yes, s_nil, s_seq, s_brk, s_cnt, s_set, s_own, s_rng, s_unp, s_par, s_if, s_ret, s_ex, frzA.eq_1, frzA.eq_2, frzA.eq_3, frz, s_frz, ownOf.eq_1, ownOf.eq_2, s_app, s_insert, ixOf, o_rev.eq_1, o_rev.eq_2, nstOf.eq_1, nstOf.eq_2, b_nix, s_sub2, s_app2, lcN.eq_1, lcN.eq_2, s_nst, s_sub, popQ, s_pop, s_popS, tup2.eq_1, tup2.eq_2, sub1, s_swp, sub2, s_swp2, f_lrng, s_for, isScr.eq_1, isScr.eq_2, s_draw, s_raise, strQ.eq_1, strQ.eq_2, intQ.eq_1, intQ.eq_2, s_raiseR, only, exM.eq_1, exM.eq_2, exM.eq_3, s_tryM, exMR.eq_1, exMR.eq_2, exMR.eq_3, s_tryMR, F_angle, startL.eq_1, startL.eq_2, startL.eq_3, start, List.set_cons_zero, List.set_cons_succ, List.getElem?_cons_zero, List.getElem?_cons_succ, List.length_cons, List.length_nil, List.cons_append, List.nil_append, List.replicate, if_true, if_false, Bool.false_eq_true, Bool.true_and, Bool.false_and, Bool.and_true, Bool.and_false, Bool.not_true, Bool.not_false, Bool.or_true, Bool.or_false, Bool.true_or, Bool.false_or, true_and, and_true, ite_self, reduceCtorEq, forL, lcL, isMovesB, h1, decide_false] using h
  | _ => simpa only [LN, e_c, vOf.eq_1, vOf.eq_2, bOf.eq_1, bOf.eq_2, bOf.eq_3, e_v, b_v, e_f, e_op, e_un, o_add.eq_1, o_add.eq_2, o_add.eq_3, o_add.eq_4, o_add.eq_5, o_sub.eq_1, o_sub.eq_2, o_mul.eq_1, o_mul.eq_2, o_mul.eq_3, o_mul.eq_4, o_fdiv.eq_1, o_fdiv.eq_2, o_mod.eq_1, o_mod.eq_2, o_lt.eq_1, o_lt.eq_2, o_le.eq_1, o_le.eq_2, o_gt.eq_1, o_gt.eq_2, o_ge.eq_1, o_ge.eq_2, o_eq_int, o_ne_int, isNone.eq_1, isNone.eq_2, o_isN, o_notN, o_isB.eq_1, o_isB.eq_2, o_notB.eq_1, o_notB.eq_2, o_neg.eq_1, o_neg.eq_2, kOf.eq_1, kOf.eq_2, c_e, c_and, c_or, c_not, e_and, e_or, e_not, e_if, e_ch, a_nil, a_cons, isDraw.eq_1, isDraw.eq_2, a_draw, e_tup, listOf.eq_1, listOf.eq_2, f_op, f_lst, e_call, oOf.eq_1, oOf.eq_2, o_ix.eq_1, o_ix.eq_2, o_ix.eq_3, iOf.eq_1, iOf.eq_2, p_none, p_some, o_sl.eq_1, o_sl.eq_2, o_sl.eq_3, e_sl, o_len.eq_1, o_len.eq_2, o_len.eq_3, o_len.eq_4, o_abs.eq_1, o_abs.eq_2, o_int.eq_1, o_int.eq_2, o_int.eq_3, isTy.eq_1, isTy.eq_2, isTy.eq_3, isTy.eq_4, isTy.eq_5, isTy.eq_6, isTy.eq_7, o_isin, o_tuple.eq_1, o_tuple.eq_2, o_tuple.eq_3, seqQ.eq_1, seqQ.eq_2, seqQ.eq_3, f_list, someOf.eq_1, someOf.eq_2, o_sum, o_maxS, o_minS, o_all.eq_1, o_all.eq_2, o_any.eq_1, o_any.eq_2, o_max.eq_1, o_max.eq_2, o_min.eq_1, o_min.eq_2, o_min3.eq_1, o_min3.eq_2, e_op3, o_repr, i_seq, nOf.eq_1, nOf.eq_2, i_rng1, i_rng2, i_rngD, rgOf.eq_1, rgOf.eq_2, i_rngV, i_num, i_zip2, i_zip, i_enum, g_n, g_nil.eq_1, g_nil.eq_2, g_cons.eq_1, g_cons.eq_2, g_tup.eq_1, g_tup.eq_2, wipeE.eq_1, wipeE.eq_2, f_lc, c_yes, s_nil, s_seq, s_brk, s_cnt, s_set, s_own, s_rng, s_unp, s_par, s_if, s_ret, s_ex, frzA.eq_1, frzA.eq_2, frzA.eq_3, frz, s_frz, ownOf.eq_1, ownOf.eq_2, s_app, s_insert, ixOf, o_rev.eq_1, o_rev.eq_2, nstOf.eq_1, nstOf.eq_2, b_nix, s_sub2, s_app2, lcN.eq_1, lcN.eq_2, s_nst, s_sub, popQ, s_pop, s_popS, tup2.eq_1, tup2.eq_2, sub1, s_swp, sub2, s_swp2, f_lrng, s_for, isScr.eq_1, isScr.eq_2, s_draw, s_raise, strQ.eq_1, strQ.eq_2, intQ.eq_1, intQ.eq_2, s_raiseR, only, exM.eq_1, exM.eq_2, exM.eq_3, s_tryM, exMR.eq_1, exMR.eq_2, exMR.eq_3, s_tryMR, F_angle, startL.eq_1, startL.eq_2, startL.eq_3, start, List.set_cons_zero, List.set_cons_succ, List.getElem?_cons_zero, List.getElem?_cons_succ, List.length_cons, List.length_nil, List.cons_append, List.nil_append, List.replicate, if_true, if_false, Bool.false_eq_true, Bool.true_and, Bool.false_and, Bool.and_true, Bool.and_false, Bool.not_true, Bool.not_false, Bool.or_true, Bool.or_false, Bool.true_or, Bool.false_or, true_and, and_true, ite_self, reduceCtorEq, forL, lcL, T_is_moves, isMovesB] using h
theorem p_check_moves (d : D) {B : Nat} {Q : D → Prop} {x : EX} (hs : small2 B d) (hB : 1 + 6 * (B + 1) ≤ 8999) (h : if isMovesB d = true then Q .none else x .malformed) : c_check_moves [d] Q x := by
  refine ⟨rfl, ?_⟩
  simp only [LN, e_c, vOf.eq_1, vOf.eq_2, bOf.eq_1, bOf.eq_2, bOf.eq_3, e_v, b_v, e_f, e_op, e_un, o_add.eq_1, o_add.eq_2, o_add.eq_3, o_add.eq_4, o_add.eq_5, o_sub.eq_1, o_sub.eq_2, o_mul.eq_1, o_mul.eq_2, o_mul.eq_3, o_mul.eq_4, o_fdiv.eq_1, o_fdiv.eq_2, o_mod.eq_1, o_mod.eq_2, o_lt.eq_1, o_lt.eq_2, o_le.eq_1, o_le.eq_2, o_gt.eq_1, o_gt.eq_2, o_ge.eq_1, o_ge.eq_2, o_eq_int, o_ne_int, isNone.eq_1, isNone.eq_2, o_isN, o_notN, o_isB.eq_1, o_isB.eq_2, o_notB.eq_1, o_notB.eq_2, o_neg.eq_1, o_neg.eq_2, kOf.eq_1, kOf.eq_2, c_e, c_and, c_or, c_not, e_and, e_or, e_not, e_if, e_ch, a_nil, a_cons, isDraw.eq_1, isDraw.eq_2, a_draw, e_tup, listOf.eq_1, listOf.eq_2, f_op, f_lst, e_call, oOf.eq_1, oOf.eq_2, o_ix.eq_1, o_ix.eq_2, o_ix.eq_3, iOf.eq_1, iOf.eq_2, p_none, p_some, o_sl.eq_1, o_sl.eq_2, o_sl.eq_3, e_sl, o_len.eq_1, o_len.eq_2, o_len.eq_3, o_len.eq_4, o_abs.eq_1, o_abs.eq_2, o_int.eq_1, o_int.eq_2, o_int.eq_3, isTy.eq_1, isTy.eq_2, isTy.eq_3, isTy.eq_4, isTy.eq_5, isTy.eq_6, isTy.eq_7, o_isin, o_tuple.eq_1, o_tuple.eq_2, o_tuple.eq_3, seqQ.eq_1, seqQ.eq_2, seqQ.eq_3, f_list, someOf.eq_1, someOf.eq_2, o_sum, o_maxS, o_minS, o_all.eq_1, o_all.eq_2, o_any.eq_1, o_any.eq_2, o_max.eq_1, o_max.eq_2, o_min.eq_1, o_min.eq_2, o_min3.eq_1, o_min3.eq_2, e_op3, o_repr, i_seq, nOf.eq_1, nOf.eq_2, i_rng1, i_rng2, i_rngD, rgOf.eq_1, rgOf.eq_2, i_rngV, i_num, i_zip2, i_zip, i_enum, g_n, g_nil.eq_1, g_nil.eq_2, g_cons.eq_1, g_cons.eq_2, g_tup.eq_1, g_tup.eq_2, wipeE.eq_1, wipeE.eq_2, f_lc, c_yes, s_nil, s_seq, s_brk, s_cnt, s_set, s_own, s_rng, s_unp, s_par, s_if, s_ret, s_ex, frzA.eq_1, frzA.eq_2, frzA.eq_3, frz, s_frz, ownOf.eq_1, ownOf.eq_2, s_app, s_insert, ixOf, o_rev.eq_1, o_rev.eq_2, nstOf.eq_1, nstOf.eq_2, b_nix, s_sub2, s_app2, lcN.eq_1, lcN.eq_2, s_nst, s_sub, popQ, s_pop, s_popS, tup2.eq_1, tup2.eq_2, sub1, s_swp, sub2, s_swp2, f_lrng, s_for, isScr.eq_1, isScr.eq_2, s_draw, s_raise, strQ.eq_1, strQ.eq_2, intQ.eq_1, intQ.eq_2, s_raiseR, only, exM.eq_1, exM.eq_2, exM.eq_3, s_tryM, exMR.eq_1, exMR.eq_2, exMR.eq_3, s_tryMR, F_angle, startL.eq_1, startL.eq_2, startL.eq_3, start, List.set_cons_zero, List.set_cons_succ, List.getElem?_cons_zero, List.getElem?_cons_succ, List.length_cons, List.length_nil, List.cons_append, List.nil_append, List.replicate, if_true, if_false, Bool.false_eq_true, Bool.true_and, Bool.false_and, Bool.and_true, Bool.and_false, Bool.not_true, Bool.not_false, Bool.or_true, Bool.or_false, Bool.true_or, Bool.false_or, true_and, and_true, ite_self, reduceCtorEq, forL, lcL, T_check_moves]
  refine p_is_moves d hs hB ?_
  cases e : isMovesB d <;> rw [e] at h <;> simpa only [LN, e_c, vOf.eq_1, vOf.eq_2, bOf.eq_1, bOf.eq_2, bOf.eq_3, e_v, b_v, e_f, e_op, e_un, o_add.eq_1, o_add.eq_2, o_add.eq_3, o_add.eq_4, o_add.eq_5, o_sub.eq_1, o_sub.eq_2, o_mul.eq_1, o_mul.eq_2, o_mul.eq_3, o_mul.eq_4, o_fdiv.eq_1, o_fdiv.eq_2, o_mod.eq_1, o_mod.eq_2, o_lt.eq_1, o_lt.eq_2, o_le.eq_1, o_le.eq_2, o_gt.eq_1, o_gt.eq_2, o_ge.eq_1, o_ge.eq_2, o_eq_int, o_ne_int, isNone.eq_1, isNone.eq_2, o_isN, o_notN, o_isB.eq_1, o_isB.eq_2, o_notB.eq_1, o_notB.eq_2, o_neg.eq_1, o_neg.eq_2, kOf.eq_1, kOf.eq_2, c_e, c_and, c_or, c_not, e_and, e_or, e_not, e_if, e_ch, a_nil, a_cons, isDraw.eq_1, isDraw.eq_2, a_draw, e_tup, listOf.eq_1, listOf.eq_2, f_op, f_lst, e_call, oOf.eq_1, oOf.eq_2, o_ix.eq_1, o_ix.eq_2, o_ix.eq_3, iOf.eq_1, iOf.eq_2, p_none, p_some, o_sl.eq_1, o_sl.eq_2, o_sl.eq_3, e_sl, o_len.eq_1, o_len.eq_2, o_len.eq_3, o_len.eq_4, o_abs.eq_1, o_abs.eq_2, o_int.eq_1, o_int.eq_2, o_int.eq_3, isTy.eq_1, isTy.eq_2, isTy.eq_3, isTy.eq_4, isTy.eq_5, isTy.eq_6, isTy.eq_7, o_isin, o_tuple.eq_1, o_tuple.eq_2, o_tuple.eq_3, seqQ.eq_1, seqQ.eq_2, seqQ.eq_3, f_list, someOf.eq_1, someOf.eq_2, o_sum, o_maxS, o_minS, o_all.eq_1, o_all.eq_2, o_any.eq_1, o_any.eq_2, o_max.eq_1, o_max.eq_2, o_min.eq_1, o_min.eq_2, o_min3.eq_1, o_min3.eq_2, e_op3, o_repr, i_seq, nOf.eq_1, nOf.eq_2, i_rng1, i_rng2, i_rngD, rgOf.eq_1, rgOf.eq_2, i_rngV, i_num, i_zip2, i_zip, i_enum, g_n, g_nil.eq_1, g_nil.eq_2, g_cons.eq_1, g_cons.eq_2, g_tup.eq_1, g_tup.eq_2, wipeE.eq_1, wipeE.eq_2, f_lc, c_yes, s_nil, s_seq, s_brk, s_cnt, s_set, s_own, s_rng, s_unp, s_par, s_if, s_ret, s_ex, frzA.eq_1, frzA.eq_2, frzA.eq_3, frz, s_frz, ownOf.eq_1, ownOf.eq_2, s_app, s_insert, ixOf, o_rev.eq_1, o_rev.eq_2, nstOf.eq_1, nstOf.eq_2, b_nix, s_sub2, s_app2, lcN.eq_1, lcN.eq_2, s_nst, s_sub, popQ, s_pop, s_popS, tup2.eq_1, tup2.eq_2, sub1, s_swp, sub2, s_swp2, f_lrng, s_for, isScr.eq_1, isScr.eq_2, s_draw, s_raise, strQ.eq_1, strQ.eq_2, intQ.eq_1, intQ.eq_2, s_raiseR, only, exM.eq_1, exM.eq_2, exM.eq_3, s_tryM, exMR.eq_1, exMR.eq_2, exMR.eq_3, s_tryMR, F_angle, startL.eq_1, startL.eq_2, startL.eq_3, start, List.set_cons_zero, List.set_cons_succ, List.getElem?_cons_zero, List.getElem?_cons_succ, List.length_cons, List.length_nil, List.cons_append, List.nil_append, List.replicate, if_true, if_false, Bool.false_eq_true, Bool.true_and, Bool.false_and, Bool.and_true, Bool.and_false, Bool.not_true, Bool.not_false, Bool.or_true, Bool.or_false, Bool.true_or, Bool.false_or, true_and, and_true, ite_self, reduceCtorEq, forL, lcL] using h
def mD (m : List (List Rat)) : D := .tuple (m.map tR)
structure Shares (n : Nat) (qs : List Rat) : Prop where
  len : qs.length = n
  pos : ∀ q ∈ qs, 0 ≤ q
  sum : qs.sum = 1
structure Moves (n : Nat) (m : List (List Rat)) : Prop where
  lo : 2 ≤ n
  hi : n ≤ 6
  len : m.length = n
  row : ∀ r ∈ m, Shares n r
  den : ∀ r ∈ m, ∀ q ∈ r, q.den ≤ 1000
theorem Shares.le_one {n : Nat} {qs : List Rat} (s : Shares n qs) {q : Rat} (h : q ∈ qs) : q ≤ 1 := by
  have := (mem_le_sum s.pos).2 q h
  rwa [s.sum] at this
theorem Moves.sz {n : Nat} {m : List (List Rat)} (M : Moves n m) {r : List Rat} (hr : r ∈ m) {q : Rat} (hq : q ∈ r) : sz 10 q :=
  sz_unit ((M.row r hr).pos q hq) ((M.row r hr).le_one hq) (Nat.lt_of_le_of_lt (M.den r hr q hq) (by decide))
theorem Moves.small {n : Nat} {m : List (List Rat)} (M : Moves n m) : small2 10 (mD m) := by
  intro row hrow
  obtain ⟨r, hr, rfl⟩ := List.mem_map.mp hrow
  intro d hd q e
  obtain ⟨p, hp, rfl⟩ := List.mem_map.mp hd
  cases rD_inj e
  exact M.sz hr hp
theorem Moves.is {n : Nat} {m : List (List Rat)} (M : Moves n m) : isMovesB (mD m) = true := by
  simp only [isMovesB, mD, List.length_map, M.len, M.lo, M.hi, decide_true, Bool.true_and, List.all_eq_true]
  intro row hrow
  obtain ⟨r, hr, rfl⟩ := List.mem_map.mp hrow
  have s := M.row r hr
  simp only [tR, fitsB_of s.len s.pos s.sum, densOk, ratsOf_map, Bool.true_and, List.all_eq_true, decide_eq_true_eq]
  exact M.den r hr
theorem p_check_ok {n : Nat} {m : List (List Rat)} (M : Moves n m) {Q : D → Prop} {x : EX} (h : Q .none) : c_check_moves [mD m] Q x :=
  p_check_moves (mD m) M.small (by decide) (by rw [M.is]; simpa using h)
theorem p_check_bad {d : D} {B : Nat} {Q : D → Prop} {x : EX} (hs : small2 B d) (hB : 1 + 6 * (B + 1) ≤ 8999) (hb : isMovesB d = false) (h : x .malformed) : c_check_moves [d] Q x :=
  p_check_moves d hs hB (by rw [hb]; simpa using h)
theorem p_fits_ok {n : Nat} {qs : List Rat} {B : Nat} (s : Shares n qs) (hB : ∀ q ∈ qs, sz B q) (hn : 1 + n * (B + 1) ≤ 8999) (hl : n ≤ 1000) {Q : D → Prop} {x : EX} (h : Q (.bool true)) : c_fits_shares [tR qs, .int n] Q x :=
  p_fits_shares (tR qs) n (fun d hd q e => by
    obtain ⟨p, hp, rfl⟩ := List.mem_map.mp hd
    rw [← rD_inj e]
    exact hB p hp) hn hl (by rw [tR, fitsB_of s.len s.pos s.sum]; exact h)

/-- parts of a sum are shares -/
theorem shares_of {ns : List Int} {n : Nat} {s : Int} (hl : ns.length = n) (h0 : ∀ k ∈ ns, 0 ≤ k) (hs : ns.sum = s) (hp : 0 < s) : Shares n (ns.map fun k => Rat.divInt k s) ∧ ∀ q ∈ ns.map fun k => Rat.divInt k s, (q.den : Int) ≤ s := by
  refine ⟨⟨by rw [List.length_map, hl], fun q hq => ?_, by rw [divInt_sum s (by omega), hs, divInt_self' s (by omega)]⟩, fun q hq => ?_⟩
  · obtain ⟨k, hk, rfl⟩ := List.mem_map.mp hq
    exact divInt_nonneg (h0 k hk) hp
  · obtain ⟨k, hk, rfl⟩ := List.mem_map.mp hq
    have := divInt_den_le k s (by omega)
    omega
/-- parts of one number up to B -/
def bd (B : Nat) (r : List Rat) : Prop := ∃ N : Nat, 0 < N ∧ N ≤ B ∧ ∀ q ∈ r, q.den ∣ N
theorem bd.le {B : Nat} {r : List Rat} (h : bd B r) : ∀ q ∈ r, q.den ≤ B := fun q hq => by
  obtain ⟨N, h0, h1, h2⟩ := h
  exact Nat.le_trans (Nat.le_of_dvd h0 (h2 q hq)) h1
theorem bd.mono {A B : Nat} {r : List Rat} (h : bd A r) (k : A ≤ B) : bd B r := by
  obtain ⟨N, h0, h1, h2⟩ := h
  exact ⟨N, h0, Nat.le_trans h1 k, h2⟩
theorem divInt_dvd (k s : Int) (hs : s ≠ 0) : (Rat.divInt k s).den ∣ s.natAbs := by
  rw [Rat.den_divInt, if_neg hs]
  exact Nat.div_dvd_of_dvd (Int.gcd_dvd_natAbs_left ..)
theorem bd_of {ns : List Int} {s : Int} {B : Nat} (hp : 0 < s) (hB : s ≤ B) : bd B (ns.map fun k => Rat.divInt k s) := by
  refine ⟨s.natAbs, by omega, by omega, fun q hq => ?_⟩
  obtain ⟨k, _, rfl⟩ := List.mem_map.mp hq
  exact divInt_dvd k s (by omega)
theorem p_law_shares {n : Nat} {Q : D → Prop} {x : EX} (h1 : 1 ≤ n) (h6 : n ≤ 6) (h : ∀ qs, Shares n qs → bd 31 qs → Q (tR qs)) : c_law_shares [.none, .int n] Q x := by
  refine ⟨rfl, ?_⟩
  simp only [LN, e_c, vOf.eq_1, vOf.eq_2, bOf.eq_1, bOf.eq_2, bOf.eq_3, e_v, b_v, e_f, e_op, e_un, o_add.eq_1, o_add.eq_2, o_add.eq_3, o_add.eq_4, o_add.eq_5, o_sub.eq_1, o_sub.eq_2, o_mul.eq_1, o_mul.eq_2, o_mul.eq_3, o_mul.eq_4, o_fdiv.eq_1, o_fdiv.eq_2, o_mod.eq_1, o_mod.eq_2, o_lt.eq_1, o_lt.eq_2, o_le.eq_1, o_le.eq_2, o_gt.eq_1, o_gt.eq_2, o_ge.eq_1, o_ge.eq_2, o_eq_int, o_ne_int, isNone.eq_1, isNone.eq_2, o_isN, o_notN, o_isB.eq_1, o_isB.eq_2, o_notB.eq_1, o_notB.eq_2, o_neg.eq_1, o_neg.eq_2, kOf.eq_1, kOf.eq_2, c_e, c_and, c_or, c_not, e_and, e_or, e_not, e_if, e_ch, a_nil, a_cons, isDraw.eq_1, isDraw.eq_2, a_draw, e_tup, listOf.eq_1, listOf.eq_2, f_op, f_lst, e_call, oOf.eq_1, oOf.eq_2, o_ix.eq_1, o_ix.eq_2, o_ix.eq_3, iOf.eq_1, iOf.eq_2, p_none, p_some, o_sl.eq_1, o_sl.eq_2, o_sl.eq_3, e_sl, o_len.eq_1, o_len.eq_2, o_len.eq_3, o_len.eq_4, o_abs.eq_1, o_abs.eq_2, o_int.eq_1, o_int.eq_2, o_int.eq_3, isTy.eq_1, isTy.eq_2, isTy.eq_3, isTy.eq_4, isTy.eq_5, isTy.eq_6, isTy.eq_7, o_isin, o_tuple.eq_1, o_tuple.eq_2, o_tuple.eq_3, seqQ.eq_1, seqQ.eq_2, seqQ.eq_3, f_list, someOf.eq_1, someOf.eq_2, o_sum, o_maxS, o_minS, o_all.eq_1, o_all.eq_2, o_any.eq_1, o_any.eq_2, o_max.eq_1, o_max.eq_2, o_min.eq_1, o_min.eq_2, o_min3.eq_1, o_min3.eq_2, e_op3, o_repr, i_seq, nOf.eq_1, nOf.eq_2, i_rng1, i_rng2, i_rngD, rgOf.eq_1, rgOf.eq_2, i_rngV, i_num, i_zip2, i_zip, i_enum, g_n, g_nil.eq_1, g_nil.eq_2, g_cons.eq_1, g_cons.eq_2, g_tup.eq_1, g_tup.eq_2, wipeE.eq_1, wipeE.eq_2, f_lc, c_yes, s_nil, s_seq, s_brk, s_cnt, s_set, s_own, s_rng, s_unp, s_par, s_if, s_ret, s_ex, frzA.eq_1, frzA.eq_2, frzA.eq_3, frz, s_frz, ownOf.eq_1, ownOf.eq_2, s_app, s_insert, ixOf, o_rev.eq_1, o_rev.eq_2, nstOf.eq_1, nstOf.eq_2, b_nix, s_sub2, s_app2, lcN.eq_1, lcN.eq_2, s_nst, s_sub, popQ, s_pop, s_popS, tup2.eq_1, tup2.eq_2, sub1, s_swp, sub2, s_swp2, f_lrng, s_for, isScr.eq_1, isScr.eq_2, s_draw, s_raise, strQ.eq_1, strQ.eq_2, intQ.eq_1, intQ.eq_2, s_raiseR, only, exM.eq_1, exM.eq_2, exM.eq_3, s_tryM, exMR.eq_1, exMR.eq_2, exMR.eq_3, s_tryMR, F_angle, startL.eq_1, startL.eq_2, startL.eq_3, start, List.set_cons_zero, List.set_cons_succ, List.getElem?_cons_zero, List.getElem?_cons_succ, List.length_cons, List.length_nil, List.cons_append, List.nil_append, List.replicate, if_true, if_false, Bool.false_eq_true, Bool.true_and, Bool.false_and, Bool.and_true, Bool.and_false, Bool.not_true, Bool.not_false, Bool.or_true, Bool.or_false, Bool.true_or, Bool.false_or, true_and, and_true, ite_self, reduceCtorEq, forL, lcL, T_law_shares]
  refine ⟨by unfold rOk; omega, ?_⟩
  rw [Int.toNat_natCast, upTo_eq]
  refine ⟨by simp; omega, ?_⟩
  refine lc_any (fun v => ∃ k : Int, v = .int k ∧ (0 ≤ k ∧ k ≤ 5)) _ [] (fun d hd P hP => ?_) fun vs hl hR => ?_
  · simp only [LN, e_c, vOf.eq_1, vOf.eq_2, bOf.eq_1, bOf.eq_2, bOf.eq_3, e_v, b_v, e_f, e_op, e_un, o_add.eq_1, o_add.eq_2, o_add.eq_3, o_add.eq_4, o_add.eq_5, o_sub.eq_1, o_sub.eq_2, o_mul.eq_1, o_mul.eq_2, o_mul.eq_3, o_mul.eq_4, o_fdiv.eq_1, o_fdiv.eq_2, o_mod.eq_1, o_mod.eq_2, o_lt.eq_1, o_lt.eq_2, o_le.eq_1, o_le.eq_2, o_gt.eq_1, o_gt.eq_2, o_ge.eq_1, o_ge.eq_2, o_eq_int, o_ne_int, isNone.eq_1, isNone.eq_2, o_isN, o_notN, o_isB.eq_1, o_isB.eq_2, o_notB.eq_1, o_notB.eq_2, o_neg.eq_1, o_neg.eq_2, kOf.eq_1, kOf.eq_2, c_e, c_and, c_or, c_not, e_and, e_or, e_not, e_if, e_ch, a_nil, a_cons, isDraw.eq_1, isDraw.eq_2, a_draw, e_tup, listOf.eq_1, listOf.eq_2, f_op, f_lst, e_call, oOf.eq_1, oOf.eq_2, o_ix.eq_1, o_ix.eq_2, o_ix.eq_3, iOf.eq_1, iOf.eq_2, p_none, p_some, o_sl.eq_1, o_sl.eq_2, o_sl.eq_3, e_sl, o_len.eq_1, o_len.eq_2, o_len.eq_3, o_len.eq_4, o_abs.eq_1, o_abs.eq_2, o_int.eq_1, o_int.eq_2, o_int.eq_3, isTy.eq_1, isTy.eq_2, isTy.eq_3, isTy.eq_4, isTy.eq_5, isTy.eq_6, isTy.eq_7, o_isin, o_tuple.eq_1, o_tuple.eq_2, o_tuple.eq_3, seqQ.eq_1, seqQ.eq_2, seqQ.eq_3, f_list, someOf.eq_1, someOf.eq_2, o_sum, o_maxS, o_minS, o_all.eq_1, o_all.eq_2, o_any.eq_1, o_any.eq_2, o_max.eq_1, o_max.eq_2, o_min.eq_1, o_min.eq_2, o_min3.eq_1, o_min3.eq_2, e_op3, o_repr, i_seq, nOf.eq_1, nOf.eq_2, i_rng1, i_rng2, i_rngD, rgOf.eq_1, rgOf.eq_2, i_rngV, i_num, i_zip2, i_zip, i_enum, g_n, g_nil.eq_1, g_nil.eq_2, g_cons.eq_1, g_cons.eq_2, g_tup.eq_1, g_tup.eq_2, wipeE.eq_1, wipeE.eq_2, f_lc, c_yes, s_nil, s_seq, s_brk, s_cnt, s_set, s_own, s_rng, s_unp, s_par, s_if, s_ret, s_ex, frzA.eq_1, frzA.eq_2, frzA.eq_3, frz, s_frz, ownOf.eq_1, ownOf.eq_2, s_app, s_insert, ixOf, o_rev.eq_1, o_rev.eq_2, nstOf.eq_1, nstOf.eq_2, b_nix, s_sub2, s_app2, lcN.eq_1, lcN.eq_2, s_nst, s_sub, popQ, s_pop, s_popS, tup2.eq_1, tup2.eq_2, sub1, s_swp, sub2, s_swp2, f_lrng, s_for, isScr.eq_1, isScr.eq_2, s_draw, s_raise, strQ.eq_1, strQ.eq_2, intQ.eq_1, intQ.eq_2, s_raiseR, only, exM.eq_1, exM.eq_2, exM.eq_3, s_tryM, exMR.eq_1, exMR.eq_2, exMR.eq_3, s_tryMR, F_angle, startL.eq_1, startL.eq_2, startL.eq_3, start, List.set_cons_zero, List.set_cons_succ, List.getElem?_cons_zero, List.getElem?_cons_succ, List.length_cons, List.length_nil, List.cons_append, List.nil_append, List.replicate, if_true, if_false, Bool.false_eq_true, Bool.true_and, Bool.false_and, Bool.and_true, Bool.and_false, Bool.not_true, Bool.not_false, Bool.or_true, Bool.or_false, Bool.true_or, Bool.false_or, true_and, and_true, ite_self, reduceCtorEq, forL, lcL]
    refine ⟨by decide, p_take (by decide) (by decide) fun r r0 r7 => ?_⟩
    have : r = 0 ∨ r = 1 ∨ r = 2 ∨ r = 3 ∨ r = 4 ∨ r = 5 ∨ r = 6 := by omega
    rcases this with rfl | rfl | rfl | rfl | rfl | rfl | rfl <;> exact hP _ ⟨_, rfl, by decide, by decide⟩
  · obtain ⟨ns, rfl, hns⟩ := iL_of hR
    rw [iL_len, List.length_map, List.length_range] at hl
    simp only [LN, e_c, vOf.eq_1, vOf.eq_2, bOf.eq_1, bOf.eq_2, bOf.eq_3, e_v, b_v, e_f, e_op, e_un, o_add.eq_1, o_add.eq_2, o_add.eq_3, o_add.eq_4, o_add.eq_5, o_sub.eq_1, o_sub.eq_2, o_mul.eq_1, o_mul.eq_2, o_mul.eq_3, o_mul.eq_4, o_fdiv.eq_1, o_fdiv.eq_2, o_mod.eq_1, o_mod.eq_2, o_lt.eq_1, o_lt.eq_2, o_le.eq_1, o_le.eq_2, o_gt.eq_1, o_gt.eq_2, o_ge.eq_1, o_ge.eq_2, o_eq_int, o_ne_int, isNone.eq_1, isNone.eq_2, o_isN, o_notN, o_isB.eq_1, o_isB.eq_2, o_notB.eq_1, o_notB.eq_2, o_neg.eq_1, o_neg.eq_2, kOf.eq_1, kOf.eq_2, c_e, c_and, c_or, c_not, e_and, e_or, e_not, e_if, e_ch, a_nil, a_cons, isDraw.eq_1, isDraw.eq_2, a_draw, e_tup, listOf.eq_1, listOf.eq_2, f_op, f_lst, e_call, oOf.eq_1, oOf.eq_2, o_ix.eq_1, o_ix.eq_2, o_ix.eq_3, iOf.eq_1, iOf.eq_2, p_none, p_some, o_sl.eq_1, o_sl.eq_2, o_sl.eq_3, e_sl, o_len.eq_1, o_len.eq_2, o_len.eq_3, o_len.eq_4, o_abs.eq_1, o_abs.eq_2, o_int.eq_1, o_int.eq_2, o_int.eq_3, isTy.eq_1, isTy.eq_2, isTy.eq_3, isTy.eq_4, isTy.eq_5, isTy.eq_6, isTy.eq_7, o_isin, o_tuple.eq_1, o_tuple.eq_2, o_tuple.eq_3, seqQ.eq_1, seqQ.eq_2, seqQ.eq_3, f_list, someOf.eq_1, someOf.eq_2, o_sum, o_maxS, o_minS, o_all.eq_1, o_all.eq_2, o_any.eq_1, o_any.eq_2, o_max.eq_1, o_max.eq_2, o_min.eq_1, o_min.eq_2, o_min3.eq_1, o_min3.eq_2, e_op3, o_repr, i_seq, nOf.eq_1, nOf.eq_2, i_rng1, i_rng2, i_rngD, rgOf.eq_1, rgOf.eq_2, i_rngV, i_num, i_zip2, i_zip, i_enum, g_n, g_nil.eq_1, g_nil.eq_2, g_cons.eq_1, g_cons.eq_2, g_tup.eq_1, g_tup.eq_2, wipeE.eq_1, wipeE.eq_2, f_lc, c_yes, s_nil, s_seq, s_brk, s_cnt, s_set, s_own, s_rng, s_unp, s_par, s_if, s_ret, s_ex, frzA.eq_1, frzA.eq_2, frzA.eq_3, frz, s_frz, ownOf.eq_1, ownOf.eq_2, s_app, s_insert, ixOf, o_rev.eq_1, o_rev.eq_2, nstOf.eq_1, nstOf.eq_2, b_nix, s_sub2, s_app2, lcN.eq_1, lcN.eq_2, s_nst, s_sub, popQ, s_pop, s_popS, tup2.eq_1, tup2.eq_2, sub1, s_swp, sub2, s_swp2, f_lrng, s_for, isScr.eq_1, isScr.eq_2, s_draw, s_raise, strQ.eq_1, strQ.eq_2, intQ.eq_1, intQ.eq_2, s_raiseR, only, exM.eq_1, exM.eq_2, exM.eq_3, s_tryM, exMR.eq_1, exMR.eq_2, exMR.eq_3, s_tryMR, F_angle, startL.eq_1, startL.eq_2, startL.eq_3, start, List.set_cons_zero, List.set_cons_succ, List.getElem?_cons_zero, List.getElem?_cons_succ, List.length_cons, List.length_nil, List.cons_append, List.nil_append, List.replicate, if_true, if_false, Bool.false_eq_true, Bool.true_and, Bool.false_and, Bool.and_true, Bool.and_false, Bool.not_true, Bool.not_false, Bool.or_true, Bool.or_false, Bool.true_or, Bool.false_or, true_and, and_true, ite_self, reduceCtorEq, forL, lcL]
    refine p_take (by omega) (by omega) fun at_0 a0 a1 => ?_
    obtain ⟨k, rfl⟩ : ∃ k : Nat, at_0 = k := ⟨at_0.toNat, by omega⟩
    have hk : k < ns.length := by omega
    have e1 : at_ (iL ns) (k : Int) = some (.int ns[k]) := by
      unfold at_
      rw [if_pos a0, Int.toNat_natCast, iL_get, List.getElem?_eq_getElem hk]
      rfl
    have a2 : (k : Int) < (iL ns).length := by rw [iL_len]; omega
    simp only [LN, e_c, vOf.eq_1, vOf.eq_2, bOf.eq_1, bOf.eq_2, bOf.eq_3, e_v, b_v, e_f, e_op, e_un, o_add.eq_1, o_add.eq_2, o_add.eq_3, o_add.eq_4, o_add.eq_5, o_sub.eq_1, o_sub.eq_2, o_mul.eq_1, o_mul.eq_2, o_mul.eq_3, o_mul.eq_4, o_fdiv.eq_1, o_fdiv.eq_2, o_mod.eq_1, o_mod.eq_2, o_lt.eq_1, o_lt.eq_2, o_le.eq_1, o_le.eq_2, o_gt.eq_1, o_gt.eq_2, o_ge.eq_1, o_ge.eq_2, o_eq_int, o_ne_int, isNone.eq_1, isNone.eq_2, o_isN, o_notN, o_isB.eq_1, o_isB.eq_2, o_notB.eq_1, o_notB.eq_2, o_neg.eq_1, o_neg.eq_2, kOf.eq_1, kOf.eq_2, c_e, c_and, c_or, c_not, e_and, e_or, e_not, e_if, e_ch, a_nil, a_cons, isDraw.eq_1, isDraw.eq_2, a_draw, e_tup, listOf.eq_1, listOf.eq_2, f_op, f_lst, e_call, oOf.eq_1, oOf.eq_2, o_ix.eq_1, o_ix.eq_2, o_ix.eq_3, iOf.eq_1, iOf.eq_2, p_none, p_some, o_sl.eq_1, o_sl.eq_2, o_sl.eq_3, e_sl, o_len.eq_1, o_len.eq_2, o_len.eq_3, o_len.eq_4, o_abs.eq_1, o_abs.eq_2, o_int.eq_1, o_int.eq_2, o_int.eq_3, isTy.eq_1, isTy.eq_2, isTy.eq_3, isTy.eq_4, isTy.eq_5, isTy.eq_6, isTy.eq_7, o_isin, o_tuple.eq_1, o_tuple.eq_2, o_tuple.eq_3, seqQ.eq_1, seqQ.eq_2, seqQ.eq_3, f_list, someOf.eq_1, someOf.eq_2, o_sum, o_maxS, o_minS, o_all.eq_1, o_all.eq_2, o_any.eq_1, o_any.eq_2, o_max.eq_1, o_max.eq_2, o_min.eq_1, o_min.eq_2, o_min3.eq_1, o_min3.eq_2, e_op3, o_repr, i_seq, nOf.eq_1, nOf.eq_2, i_rng1, i_rng2, i_rngD, rgOf.eq_1, rgOf.eq_2, i_rngV, i_num, i_zip2, i_zip, i_enum, g_n, g_nil.eq_1, g_nil.eq_2, g_cons.eq_1, g_cons.eq_2, g_tup.eq_1, g_tup.eq_2, wipeE.eq_1, wipeE.eq_2, f_lc, c_yes, s_nil, s_seq, s_brk, s_cnt, s_set, s_own, s_rng, s_unp, s_par, s_if, s_ret, s_ex, frzA.eq_1, frzA.eq_2, frzA.eq_3, frz, s_frz, ownOf.eq_1, ownOf.eq_2, s_app, s_insert, ixOf, o_rev.eq_1, o_rev.eq_2, nstOf.eq_1, nstOf.eq_2, b_nix, s_sub2, s_app2, lcN.eq_1, lcN.eq_2, s_nst, s_sub, popQ, s_pop, s_popS, tup2.eq_1, tup2.eq_2, sub1, s_swp, sub2, s_swp2, f_lrng, s_for, isScr.eq_1, isScr.eq_2, s_draw, s_raise, strQ.eq_1, strQ.eq_2, intQ.eq_1, intQ.eq_2, s_raiseR, only, exM.eq_1, exM.eq_2, exM.eq_3, s_tryM, exMR.eq_1, exMR.eq_2, exMR.eq_3, s_tryMR, F_angle, startL.eq_1, startL.eq_2, startL.eq_3, start, List.set_cons_zero, List.set_cons_succ, List.getElem?_cons_zero, List.getElem?_cons_succ, List.length_cons, List.length_nil, List.cons_append, List.nil_append, List.replicate, if_true, if_false, Bool.false_eq_true, Bool.true_and, Bool.false_and, Bool.and_true, Bool.and_false, Bool.not_true, Bool.not_false, Bool.or_true, Bool.or_false, Bool.true_or, Bool.false_or, true_and, and_true, ite_self, reduceCtorEq, forL, lcL, e1]
    rw [if_pos a0, Int.toNat_natCast, iL_set]
    refine ⟨a2, ?_⟩
    have hm0 : ∀ z ∈ ns.set k (ns[k] + 1), 0 ≤ z ∧ z ≤ 6 := by
      intro z hz
      rcases List.mem_or_eq_of_mem_set hz with hz | rfl
      · have := hns z hz
        omega
      · have := hns ns[k] (List.getElem_mem hk)
        omega
    have hpos : 0 < (ns.set k (ns[k] + 1)).sum := by
      have h1 := (sum_pos fun z hz => (hm0 z hz).1).2 (ns[k] + 1) (List.mem_set hk _)
      have := hns ns[k] (List.getElem_mem hk)
      omega
    have hle : (ns.set k (ns[k] + 1)).sum ≤ 31 := by
      have e : (ns.set k (ns[k] + 1)).sum = ns.sum + 1 := by
        have key : ∀ (l : List Int) (k : Nat) (hk : k < l.length), (l.set k (l[k] + 1)).sum = l.sum + 1 := by
          intro l
          induction l with
          | nil => intro k hk; cases hk
          | cons a l ih =>
            intro k hk
            cases k with
            | zero => simp only [List.set_cons_zero, List.getElem_cons_zero, List.sum_cons]; omega
            | succ k =>
              simp only [List.set_cons_succ, List.getElem_cons_succ, List.sum_cons]
              have := ih k (by simpa using hk)
              omega
        exact key ns k hk
      have := sum_le (ns := ns) (b := 5) fun z hz => (hns z hz).2
      rw [e]
      omega
    generalize hms : ns.set k (ns[k] + 1) = ms at hm0 hpos hle ⊢
    have hml : ms.length = n := by rw [← hms, List.length_set]; exact hl
    refine ⟨by rw [iL_len]; omega, ?_⟩
    obtain ⟨s1, s2⟩ := shares_of (n := n) hml (fun z hz => (hm0 z hz).1) rfl hpos
    refine lc_fun (fun d => match d with | .int z => rD (Rat.divInt z ms.sum) | d => d) (iL ms) [] (fun d hd P hP => ?_) ?_
    · obtain ⟨z, hz, rfl⟩ := List.mem_map.mp hd
      simp only [LN, e_c, vOf.eq_1, vOf.eq_2, bOf.eq_1, bOf.eq_2, bOf.eq_3, e_v, b_v, e_f, e_op, e_un, o_add.eq_1, o_add.eq_2, o_add.eq_3, o_add.eq_4, o_add.eq_5, o_sub.eq_1, o_sub.eq_2, o_mul.eq_1, o_mul.eq_2, o_mul.eq_3, o_mul.eq_4, o_fdiv.eq_1, o_fdiv.eq_2, o_mod.eq_1, o_mod.eq_2, o_lt.eq_1, o_lt.eq_2, o_le.eq_1, o_le.eq_2, o_gt.eq_1, o_gt.eq_2, o_ge.eq_1, o_ge.eq_2, o_eq_int, o_ne_int, isNone.eq_1, isNone.eq_2, o_isN, o_notN, o_isB.eq_1, o_isB.eq_2, o_notB.eq_1, o_notB.eq_2, o_neg.eq_1, o_neg.eq_2, kOf.eq_1, kOf.eq_2, c_e, c_and, c_or, c_not, e_and, e_or, e_not, e_if, e_ch, a_nil, a_cons, isDraw.eq_1, isDraw.eq_2, a_draw, e_tup, listOf.eq_1, listOf.eq_2, f_op, f_lst, e_call, oOf.eq_1, oOf.eq_2, o_ix.eq_1, o_ix.eq_2, o_ix.eq_3, iOf.eq_1, iOf.eq_2, p_none, p_some, o_sl.eq_1, o_sl.eq_2, o_sl.eq_3, e_sl, o_len.eq_1, o_len.eq_2, o_len.eq_3, o_len.eq_4, o_abs.eq_1, o_abs.eq_2, o_int.eq_1, o_int.eq_2, o_int.eq_3, isTy.eq_1, isTy.eq_2, isTy.eq_3, isTy.eq_4, isTy.eq_5, isTy.eq_6, isTy.eq_7, o_isin, o_tuple.eq_1, o_tuple.eq_2, o_tuple.eq_3, seqQ.eq_1, seqQ.eq_2, seqQ.eq_3, f_list, someOf.eq_1, someOf.eq_2, o_sum, o_maxS, o_minS, o_all.eq_1, o_all.eq_2, o_any.eq_1, o_any.eq_2, o_max.eq_1, o_max.eq_2, o_min.eq_1, o_min.eq_2, o_min3.eq_1, o_min3.eq_2, e_op3, o_repr, i_seq, nOf.eq_1, nOf.eq_2, i_rng1, i_rng2, i_rngD, rgOf.eq_1, rgOf.eq_2, i_rngV, i_num, i_zip2, i_zip, i_enum, g_n, g_nil.eq_1, g_nil.eq_2, g_cons.eq_1, g_cons.eq_2, g_tup.eq_1, g_tup.eq_2, wipeE.eq_1, wipeE.eq_2, f_lc, c_yes, s_nil, s_seq, s_brk, s_cnt, s_set, s_own, s_rng, s_unp, s_par, s_if, s_ret, s_ex, frzA.eq_1, frzA.eq_2, frzA.eq_3, frz, s_frz, ownOf.eq_1, ownOf.eq_2, s_app, s_insert, ixOf, o_rev.eq_1, o_rev.eq_2, nstOf.eq_1, nstOf.eq_2, b_nix, s_sub2, s_app2, lcN.eq_1, lcN.eq_2, s_nst, s_sub, popQ, s_pop, s_popS, tup2.eq_1, tup2.eq_2, sub1, s_swp, sub2, s_swp2, f_lrng, s_for, isScr.eq_1, isScr.eq_2, s_draw, s_raise, strQ.eq_1, strQ.eq_2, intQ.eq_1, intQ.eq_2, s_raiseR, only, exM.eq_1, exM.eq_2, exM.eq_3, s_tryM, exMR.eq_1, exMR.eq_2, exMR.eq_3, s_tryMR, F_angle, startL.eq_1, startL.eq_2, startL.eq_3, start, List.set_cons_zero, List.set_cons_succ, List.getElem?_cons_zero, List.getElem?_cons_succ, List.length_cons, List.length_nil, List.cons_append, List.nil_append, List.replicate, if_true, if_false, Bool.false_eq_true, Bool.true_and, Bool.false_and, Bool.and_true, Bool.and_false, Bool.not_true, Bool.not_false, Bool.or_true, Bool.or_false, Bool.true_or, Bool.false_or, true_and, and_true, ite_self, reduceCtorEq, forL, lcL, intsOf_iL]
      exact p_law_ratio z ms.sum (B := 5) (by omega) (by omega) (by decide) hP
    · have e2 : (iL ms).map (fun d => match d with | .int z => rD (Rat.divInt z ms.sum) | d => d) = (ms.map fun k => Rat.divInt k ms.sum).map rD := by
        unfold iL
        rw [List.map_map, List.map_map]
        rfl
      rw [List.nil_append, e2]
      exact h _ s1 (bd_of hpos hle)
/-- the first differences of a row -/
def dif (row : List Int) (j : Nat) : Int := row.getD j 0 - (if 0 < j then row.getD (j - 1) 0 else 0)
theorem dif_sum (row : List Int) : ∀ n : Nat, ((List.range (n + 1)).map (dif row)).sum = row.getD n 0
  | 0 => by simp [dif]
  | n + 1 => by
    rw [List.range_succ, List.map_append, List.sum_append, dif_sum row n]
    simp [dif]
    omega
theorem p_law_ranked {n : Nat} {Q : D → Prop} {x : EX} (h1 : 2 ≤ n) (h6 : n ≤ 6) (h : ∀ m : List (List Rat), m.length = n → (∀ r ∈ m, Shares n r ∧ bd 8 r) → Q (.list (m.map lR))) : c_law_ranked [.none, .int n] Q x := by
  refine ⟨rfl, ?_⟩
  simp only [LN, e_c, vOf.eq_1, vOf.eq_2, bOf.eq_1, bOf.eq_2, bOf.eq_3, e_v, b_v, e_f, e_op, e_un, o_add.eq_1, o_add.eq_2, o_add.eq_3, o_add.eq_4, o_add.eq_5, o_sub.eq_1, o_sub.eq_2, o_mul.eq_1, o_mul.eq_2, o_mul.eq_3, o_mul.eq_4, o_fdiv.eq_1, o_fdiv.eq_2, o_mod.eq_1, o_mod.eq_2, o_lt.eq_1, o_lt.eq_2, o_le.eq_1, o_le.eq_2, o_gt.eq_1, o_gt.eq_2, o_ge.eq_1, o_ge.eq_2, o_eq_int, o_ne_int, isNone.eq_1, isNone.eq_2, o_isN, o_notN, o_isB.eq_1, o_isB.eq_2, o_notB.eq_1, o_notB.eq_2, o_neg.eq_1, o_neg.eq_2, kOf.eq_1, kOf.eq_2, c_e, c_and, c_or, c_not, e_and, e_or, e_not, e_if, e_ch, a_nil, a_cons, isDraw.eq_1, isDraw.eq_2, a_draw, e_tup, listOf.eq_1, listOf.eq_2, f_op, f_lst, e_call, oOf.eq_1, oOf.eq_2, o_ix.eq_1, o_ix.eq_2, o_ix.eq_3, iOf.eq_1, iOf.eq_2, p_none, p_some, o_sl.eq_1, o_sl.eq_2, o_sl.eq_3, e_sl, o_len.eq_1, o_len.eq_2, o_len.eq_3, o_len.eq_4, o_abs.eq_1, o_abs.eq_2, o_int.eq_1, o_int.eq_2, o_int.eq_3, isTy.eq_1, isTy.eq_2, isTy.eq_3, isTy.eq_4, isTy.eq_5, isTy.eq_6, isTy.eq_7, o_isin, o_tuple.eq_1, o_tuple.eq_2, o_tuple.eq_3, seqQ.eq_1, seqQ.eq_2, seqQ.eq_3, f_list, someOf.eq_1, someOf.eq_2, o_sum, o_maxS, o_minS, o_all.eq_1, o_all.eq_2, o_any.eq_1, o_any.eq_2, o_max.eq_1, o_max.eq_2, o_min.eq_1, o_min.eq_2, o_min3.eq_1, o_min3.eq_2, e_op3, o_repr, i_seq, nOf.eq_1, nOf.eq_2, i_rng1, i_rng2, i_rngD, rgOf.eq_1, rgOf.eq_2, i_rngV, i_num, i_zip2, i_zip, i_enum, g_n, g_nil.eq_1, g_nil.eq_2, g_cons.eq_1, g_cons.eq_2, g_tup.eq_1, g_tup.eq_2, wipeE.eq_1, wipeE.eq_2, f_lc, c_yes, s_nil, s_seq, s_brk, s_cnt, s_set, s_own, s_rng, s_unp, s_par, s_if, s_ret, s_ex, frzA.eq_1, frzA.eq_2, frzA.eq_3, frz, s_frz, ownOf.eq_1, ownOf.eq_2, s_app, s_insert, ixOf, o_rev.eq_1, o_rev.eq_2, nstOf.eq_1, nstOf.eq_2, b_nix, s_sub2, s_app2, lcN.eq_1, lcN.eq_2, s_nst, s_sub, popQ, s_pop, s_popS, tup2.eq_1, tup2.eq_2, sub1, s_swp, sub2, s_swp2, f_lrng, s_for, isScr.eq_1, isScr.eq_2, s_draw, s_raise, strQ.eq_1, strQ.eq_2, intQ.eq_1, intQ.eq_2, s_raiseR, only, exM.eq_1, exM.eq_2, exM.eq_3, s_tryM, exMR.eq_1, exMR.eq_2, exMR.eq_3, s_tryMR, F_angle, startL.eq_1, startL.eq_2, startL.eq_3, start, List.set_cons_zero, List.set_cons_succ, List.getElem?_cons_zero, List.getElem?_cons_succ, List.length_cons, List.length_nil, List.cons_append, List.nil_append, List.replicate, if_true, if_false, Bool.false_eq_true, Bool.true_and, Bool.false_and, Bool.and_true, Bool.and_false, Bool.not_true, Bool.not_false, Bool.or_true, Bool.or_false, Bool.true_or, Bool.false_or, true_and, and_true, ite_self, reduceCtorEq, forL, lcL, T_law_ranked]
  refine ⟨by decide, ⟨by omega, by omega, by decide⟩, by decide, by unfold rOk; omega, ?_⟩
  have e8 : (List.replicate n [PyData.int 8]).flatten = iL (List.replicate n 8) := by
    unfold iL
    rw [List.map_replicate]
    clear h1 h6 h
    induction n with
    | zero => rfl
    | succ n ih => rw [List.replicate_succ, List.flatten_cons, ih, List.replicate_succ]; rfl
  simp only [Int.toNat_natCast]
  rw [e8]
  refine for_up (fun k ρ => ∃ left m s2 y4 y5 y6 y7, ρ = [.draw, .val (.int n), s2, .own (List.map lR m), y4, y5, y6, y7] ∧ isL s2 (iL left) ∧ left.length = n ∧ bnd 8 left ∧ m.length = k ∧ ∀ r ∈ m, Shares n r ∧ bd 8 r) n 0 ?step ⟨List.replicate n 8, [], _, _, _, _, _, rfl, .inl rfl, by simp, fun z hz => by rw [(List.mem_replicate.mp hz).2]; decide, rfl, fun _ h => by cases h⟩ ?fin
  case fin =>
    rintro ρ ⟨left, m, s2, y4, y5, y6, y7, rfl, hs2, hll, hlb, hm, hr⟩
    simp only [LN, e_c, vOf.eq_1, vOf.eq_2, bOf.eq_1, bOf.eq_2, bOf.eq_3, e_v, b_v, e_f, e_op, e_un, o_add.eq_1, o_add.eq_2, o_add.eq_3, o_add.eq_4, o_add.eq_5, o_sub.eq_1, o_sub.eq_2, o_mul.eq_1, o_mul.eq_2, o_mul.eq_3, o_mul.eq_4, o_fdiv.eq_1, o_fdiv.eq_2, o_mod.eq_1, o_mod.eq_2, o_lt.eq_1, o_lt.eq_2, o_le.eq_1, o_le.eq_2, o_gt.eq_1, o_gt.eq_2, o_ge.eq_1, o_ge.eq_2, o_eq_int, o_ne_int, isNone.eq_1, isNone.eq_2, o_isN, o_notN, o_isB.eq_1, o_isB.eq_2, o_notB.eq_1, o_notB.eq_2, o_neg.eq_1, o_neg.eq_2, kOf.eq_1, kOf.eq_2, c_e, c_and, c_or, c_not, e_and, e_or, e_not, e_if, e_ch, a_nil, a_cons, isDraw.eq_1, isDraw.eq_2, a_draw, e_tup, listOf.eq_1, listOf.eq_2, f_op, f_lst, e_call, oOf.eq_1, oOf.eq_2, o_ix.eq_1, o_ix.eq_2, o_ix.eq_3, iOf.eq_1, iOf.eq_2, p_none, p_some, o_sl.eq_1, o_sl.eq_2, o_sl.eq_3, e_sl, o_len.eq_1, o_len.eq_2, o_len.eq_3, o_len.eq_4, o_abs.eq_1, o_abs.eq_2, o_int.eq_1, o_int.eq_2, o_int.eq_3, isTy.eq_1, isTy.eq_2, isTy.eq_3, isTy.eq_4, isTy.eq_5, isTy.eq_6, isTy.eq_7, o_isin, o_tuple.eq_1, o_tuple.eq_2, o_tuple.eq_3, seqQ.eq_1, seqQ.eq_2, seqQ.eq_3, f_list, someOf.eq_1, someOf.eq_2, o_sum, o_maxS, o_minS, o_all.eq_1, o_all.eq_2, o_any.eq_1, o_any.eq_2, o_max.eq_1, o_max.eq_2, o_min.eq_1, o_min.eq_2, o_min3.eq_1, o_min3.eq_2, e_op3, o_repr, i_seq, nOf.eq_1, nOf.eq_2, i_rng1, i_rng2, i_rngD, rgOf.eq_1, rgOf.eq_2, i_rngV, i_num, i_zip2, i_zip, i_enum, g_n, g_nil.eq_1, g_nil.eq_2, g_cons.eq_1, g_cons.eq_2, g_tup.eq_1, g_tup.eq_2, wipeE.eq_1, wipeE.eq_2, f_lc, c_yes, s_nil, s_seq, s_brk, s_cnt, s_set, s_own, s_rng, s_unp, s_par, s_if, s_ret, s_ex, frzA.eq_1, frzA.eq_2, frzA.eq_3, frz, s_frz, ownOf.eq_1, ownOf.eq_2, s_app, s_insert, ixOf, o_rev.eq_1, o_rev.eq_2, nstOf.eq_1, nstOf.eq_2, b_nix, s_sub2, s_app2, lcN.eq_1, lcN.eq_2, s_nst, s_sub, popQ, s_pop, s_popS, tup2.eq_1, tup2.eq_2, sub1, s_swp, sub2, s_swp2, f_lrng, s_for, isScr.eq_1, isScr.eq_2, s_draw, s_raise, strQ.eq_1, strQ.eq_2, intQ.eq_1, intQ.eq_2, s_raiseR, only, exM.eq_1, exM.eq_2, exM.eq_3, s_tryM, exMR.eq_1, exMR.eq_2, exMR.eq_3, s_tryMR, F_angle, startL.eq_1, startL.eq_2, startL.eq_3, start, List.set_cons_zero, List.set_cons_succ, List.getElem?_cons_zero, List.getElem?_cons_succ, List.length_cons, List.length_nil, List.cons_append, List.nil_append, List.replicate, if_true, if_false, Bool.false_eq_true, Bool.true_and, Bool.false_and, Bool.and_true, Bool.and_false, Bool.not_true, Bool.not_false, Bool.or_true, Bool.or_false, Bool.true_or, Bool.false_or, true_and, and_true, ite_self, reduceCtorEq, forL, lcL]
    exact h m hm hr
  case step =>
    rintro k ρ N hk ⟨left, m, s2, y4, y5, y6, y7, rfl, hs2, hll, hlb, hm, hr⟩ hN
    simp only [LN, e_c, vOf.eq_1, vOf.eq_2, bOf.eq_1, bOf.eq_2, bOf.eq_3, e_v, b_v, e_f, e_op, e_un, o_add.eq_1, o_add.eq_2, o_add.eq_3, o_add.eq_4, o_add.eq_5, o_sub.eq_1, o_sub.eq_2, o_mul.eq_1, o_mul.eq_2, o_mul.eq_3, o_mul.eq_4, o_fdiv.eq_1, o_fdiv.eq_2, o_mod.eq_1, o_mod.eq_2, o_lt.eq_1, o_lt.eq_2, o_le.eq_1, o_le.eq_2, o_gt.eq_1, o_gt.eq_2, o_ge.eq_1, o_ge.eq_2, o_eq_int, o_ne_int, isNone.eq_1, isNone.eq_2, o_isN, o_notN, o_isB.eq_1, o_isB.eq_2, o_notB.eq_1, o_notB.eq_2, o_neg.eq_1, o_neg.eq_2, kOf.eq_1, kOf.eq_2, c_e, c_and, c_or, c_not, e_and, e_or, e_not, e_if, e_ch, a_nil, a_cons, isDraw.eq_1, isDraw.eq_2, a_draw, e_tup, listOf.eq_1, listOf.eq_2, f_op, f_lst, e_call, oOf.eq_1, oOf.eq_2, o_ix.eq_1, o_ix.eq_2, o_ix.eq_3, iOf.eq_1, iOf.eq_2, p_none, p_some, o_sl.eq_1, o_sl.eq_2, o_sl.eq_3, e_sl, o_len.eq_1, o_len.eq_2, o_len.eq_3, o_len.eq_4, o_abs.eq_1, o_abs.eq_2, o_int.eq_1, o_int.eq_2, o_int.eq_3, isTy.eq_1, isTy.eq_2, isTy.eq_3, isTy.eq_4, isTy.eq_5, isTy.eq_6, isTy.eq_7, o_isin, o_tuple.eq_1, o_tuple.eq_2, o_tuple.eq_3, seqQ.eq_1, seqQ.eq_2, seqQ.eq_3, f_list, someOf.eq_1, someOf.eq_2, o_sum, o_maxS, o_minS, o_all.eq_1, o_all.eq_2, o_any.eq_1, o_any.eq_2, o_max.eq_1, o_max.eq_2, o_min.eq_1, o_min.eq_2, o_min3.eq_1, o_min3.eq_2, e_op3, o_repr, i_seq, nOf.eq_1, nOf.eq_2, i_rng1, i_rng2, i_rngD, rgOf.eq_1, rgOf.eq_2, i_rngV, i_num, i_zip2, i_zip, i_enum, g_n, g_nil.eq_1, g_nil.eq_2, g_cons.eq_1, g_cons.eq_2, g_tup.eq_1, g_tup.eq_2, wipeE.eq_1, wipeE.eq_2, f_lc, c_yes, s_nil, s_seq, s_brk, s_cnt, s_set, s_own, s_rng, s_unp, s_par, s_if, s_ret, s_ex, frzA.eq_1, frzA.eq_2, frzA.eq_3, frz, s_frz, ownOf.eq_1, ownOf.eq_2, s_app, s_insert, ixOf, o_rev.eq_1, o_rev.eq_2, nstOf.eq_1, nstOf.eq_2, b_nix, s_sub2, s_app2, lcN.eq_1, lcN.eq_2, s_nst, s_sub, popQ, s_pop, s_popS, tup2.eq_1, tup2.eq_2, sub1, s_swp, sub2, s_swp2, f_lrng, s_for, isScr.eq_1, isScr.eq_2, s_draw, s_raise, strQ.eq_1, strQ.eq_2, intQ.eq_1, intQ.eq_2, s_raiseR, only, exM.eq_1, exM.eq_2, exM.eq_3, s_tryM, exMR.eq_1, exMR.eq_2, exMR.eq_3, s_tryMR, F_angle, startL.eq_1, startL.eq_2, startL.eq_3, start, List.set_cons_zero, List.set_cons_succ, List.getElem?_cons_zero, List.getElem?_cons_succ, List.length_cons, List.length_nil, List.cons_append, List.nil_append, List.replicate, if_true, if_false, Bool.false_eq_true, Bool.true_and, Bool.false_and, Bool.and_true, Bool.and_false, Bool.not_true, Bool.not_false, Bool.or_true, Bool.or_false, Bool.true_or, Bool.false_or, true_and, and_true, ite_self, reduceCtorEq, forL, lcL]
    refine ⟨by decide, by unfold rOk; omega, ?_⟩
    simp only [Int.toNat_natCast]
    -- the row is made
    refine for_up (fun j ρ => ∃ row y6 y7, ρ = [.draw, .val (.int n), s2, .own (List.map lR m), .val (.int (0 + k)), .own (iL row), y6, y7] ∧ row.length = j ∧ bnd 8 row ∧ (j = n → row.getD (n - 1) 0 = 8)) n 0 ?step1 ⟨[], _, _, rfl, rfl, (fun _ h => by cases h), by omega⟩ ?fin1
    case step1 =>
      rintro j ρ N1 hj ⟨row, y6, y7, rfl, hrl, hrb, hlast⟩ hN1
      simp only [LN, e_c, vOf.eq_1, vOf.eq_2, bOf.eq_1, bOf.eq_2, bOf.eq_3, e_v, b_v, e_f, e_op, e_un, o_add.eq_1, o_add.eq_2, o_add.eq_3, o_add.eq_4, o_add.eq_5, o_sub.eq_1, o_sub.eq_2, o_mul.eq_1, o_mul.eq_2, o_mul.eq_3, o_mul.eq_4, o_fdiv.eq_1, o_fdiv.eq_2, o_mod.eq_1, o_mod.eq_2, o_lt.eq_1, o_lt.eq_2, o_le.eq_1, o_le.eq_2, o_gt.eq_1, o_gt.eq_2, o_ge.eq_1, o_ge.eq_2, o_eq_int, o_ne_int, isNone.eq_1, isNone.eq_2, o_isN, o_notN, o_isB.eq_1, o_isB.eq_2, o_notB.eq_1, o_notB.eq_2, o_neg.eq_1, o_neg.eq_2, kOf.eq_1, kOf.eq_2, c_e, c_and, c_or, c_not, e_and, e_or, e_not, e_if, e_ch, a_nil, a_cons, isDraw.eq_1, isDraw.eq_2, a_draw, e_tup, listOf.eq_1, listOf.eq_2, f_op, f_lst, e_call, oOf.eq_1, oOf.eq_2, o_ix.eq_1, o_ix.eq_2, o_ix.eq_3, iOf.eq_1, iOf.eq_2, p_none, p_some, o_sl.eq_1, o_sl.eq_2, o_sl.eq_3, e_sl, o_len.eq_1, o_len.eq_2, o_len.eq_3, o_len.eq_4, o_abs.eq_1, o_abs.eq_2, o_int.eq_1, o_int.eq_2, o_int.eq_3, isTy.eq_1, isTy.eq_2, isTy.eq_3, isTy.eq_4, isTy.eq_5, isTy.eq_6, isTy.eq_7, o_isin, o_tuple.eq_1, o_tuple.eq_2, o_tuple.eq_3, seqQ.eq_1, seqQ.eq_2, seqQ.eq_3, f_list, someOf.eq_1, someOf.eq_2, o_sum, o_maxS, o_minS, o_all.eq_1, o_all.eq_2, o_any.eq_1, o_any.eq_2, o_max.eq_1, o_max.eq_2, o_min.eq_1, o_min.eq_2, o_min3.eq_1, o_min3.eq_2, e_op3, o_repr, i_seq, nOf.eq_1, nOf.eq_2, i_rng1, i_rng2, i_rngD, rgOf.eq_1, rgOf.eq_2, i_rngV, i_num, i_zip2, i_zip, i_enum, g_n, g_nil.eq_1, g_nil.eq_2, g_cons.eq_1, g_cons.eq_2, g_tup.eq_1, g_tup.eq_2, wipeE.eq_1, wipeE.eq_2, f_lc, c_yes, s_nil, s_seq, s_brk, s_cnt, s_set, s_own, s_rng, s_unp, s_par, s_if, s_ret, s_ex, frzA.eq_1, frzA.eq_2, frzA.eq_3, frz, s_frz, ownOf.eq_1, ownOf.eq_2, s_app, s_insert, ixOf, o_rev.eq_1, o_rev.eq_2, nstOf.eq_1, nstOf.eq_2, b_nix, s_sub2, s_app2, lcN.eq_1, lcN.eq_2, s_nst, s_sub, popQ, s_pop, s_popS, tup2.eq_1, tup2.eq_2, sub1, s_swp, sub2, s_swp2, f_lrng, s_for, isScr.eq_1, isScr.eq_2, s_draw, s_raise, strQ.eq_1, strQ.eq_2, intQ.eq_1, intQ.eq_2, s_raiseR, only, exM.eq_1, exM.eq_2, exM.eq_3, s_tryM, exMR.eq_1, exMR.eq_2, exMR.eq_3, s_tryMR, F_angle, startL.eq_1, startL.eq_2, startL.eq_3, start, List.set_cons_zero, List.set_cons_succ, List.getElem?_cons_zero, List.getElem?_cons_succ, List.length_cons, List.length_nil, List.cons_append, List.nil_append, List.replicate, if_true, if_false, Bool.false_eq_true, Bool.true_and, Bool.false_and, Bool.and_true, Bool.and_false, Bool.not_true, Bool.not_false, Bool.or_true, Bool.or_false, Bool.true_or, Bool.false_or, true_and, and_true, ite_self, reduceCtorEq, forL, lcL, Int.zero_add]
      have hleft := bnd_at hlb (show j < left.length by omega)
      have hleft2 := at_iL (show j < left.length by omega)
      have fin : ∀ (low : Int), 0 ≤ low → low ≤ 8 → ∀ d : Int, 0 ≤ d → d ≤ 8 → (((j : Int) == (n : Int) - 1) = true → d = 8) → (iL row).length < 1000000 ∧ N1 [.draw, .val (.int n), s2, .own (List.map lR m), .val (.int k), .own (iL row ++ [.int d]), .val (.int j), .val (.int low)] := by
        intro low l0 l8 d d0 d8 hd
        refine ⟨by rw [iL_len]; omega, hN1 _ ⟨row ++ [d], _, _, by rw [iL_app, Int.zero_add], by simp [hrl], bnd_app hrb d0 d8, fun he => ?_⟩⟩
        rw [List.getD_eq_getElem?_getD, List.getElem?_append_right (by omega), show n - 1 - row.length = 0 by omega]
        exact hd (by simp; omega)
      have low : ∀ (w : Int), 0 ≤ w → w ≤ 8 → (e_if (c_e (e_op o_eq (b_v 6) (e_op o_sub (b_v 1) (e_c (.int 1))))) (e_c (.int 8)) (e_op o_max (b_v 7) (e_op o_sub (e_op o_ix (b_v 2) (b_v 6)) (e_call c_law_take (a_draw 0 (a_cons (e_c (.int 4)) a_nil))))))
          [.draw, .val (.int n), s2, .own (List.map lR m), .val (.int k), .own (iL row), .val (.int j), .val (.int w)] (fun d => (iL row).length < 1000000 ∧ N1 [.draw, .val (.int n), s2, .own (List.map lR m), .val (.int k), .own (iL row ++ [d]), .val (.int j), .val (.int w)]) x := by
        intro w w0 w8
        simp only [LN, e_c, vOf.eq_1, vOf.eq_2, bOf.eq_1, bOf.eq_2, bOf.eq_3, e_v, b_v, e_f, e_op, e_un, o_add.eq_1, o_add.eq_2, o_add.eq_3, o_add.eq_4, o_add.eq_5, o_sub.eq_1, o_sub.eq_2, o_mul.eq_1, o_mul.eq_2, o_mul.eq_3, o_mul.eq_4, o_fdiv.eq_1, o_fdiv.eq_2, o_mod.eq_1, o_mod.eq_2, o_lt.eq_1, o_lt.eq_2, o_le.eq_1, o_le.eq_2, o_gt.eq_1, o_gt.eq_2, o_ge.eq_1, o_ge.eq_2, o_eq_int, o_ne_int, isNone.eq_1, isNone.eq_2, o_isN, o_notN, o_isB.eq_1, o_isB.eq_2, o_notB.eq_1, o_notB.eq_2, o_neg.eq_1, o_neg.eq_2, kOf.eq_1, kOf.eq_2, c_e, c_and, c_or, c_not, e_and, e_or, e_not, e_if, e_ch, a_nil, a_cons, isDraw.eq_1, isDraw.eq_2, a_draw, e_tup, listOf.eq_1, listOf.eq_2, f_op, f_lst, e_call, oOf.eq_1, oOf.eq_2, o_ix.eq_1, o_ix.eq_2, o_ix.eq_3, iOf.eq_1, iOf.eq_2, p_none, p_some, o_sl.eq_1, o_sl.eq_2, o_sl.eq_3, e_sl, o_len.eq_1, o_len.eq_2, o_len.eq_3, o_len.eq_4, o_abs.eq_1, o_abs.eq_2, o_int.eq_1, o_int.eq_2, o_int.eq_3, isTy.eq_1, isTy.eq_2, isTy.eq_3, isTy.eq_4, isTy.eq_5, isTy.eq_6, isTy.eq_7, o_isin, o_tuple.eq_1, o_tuple.eq_2, o_tuple.eq_3, seqQ.eq_1, seqQ.eq_2, seqQ.eq_3, f_list, someOf.eq_1, someOf.eq_2, o_sum, o_maxS, o_minS, o_all.eq_1, o_all.eq_2, o_any.eq_1, o_any.eq_2, o_max.eq_1, o_max.eq_2, o_min.eq_1, o_min.eq_2, o_min3.eq_1, o_min3.eq_2, e_op3, o_repr, i_seq, nOf.eq_1, nOf.eq_2, i_rng1, i_rng2, i_rngD, rgOf.eq_1, rgOf.eq_2, i_rngV, i_num, i_zip2, i_zip, i_enum, g_n, g_nil.eq_1, g_nil.eq_2, g_cons.eq_1, g_cons.eq_2, g_tup.eq_1, g_tup.eq_2, wipeE.eq_1, wipeE.eq_2, f_lc, c_yes, s_nil, s_seq, s_brk, s_cnt, s_set, s_own, s_rng, s_unp, s_par, s_if, s_ret, s_ex, frzA.eq_1, frzA.eq_2, frzA.eq_3, frz, s_frz, ownOf.eq_1, ownOf.eq_2, s_app, s_insert, ixOf, o_rev.eq_1, o_rev.eq_2, nstOf.eq_1, nstOf.eq_2, b_nix, s_sub2, s_app2, lcN.eq_1, lcN.eq_2, s_nst, s_sub, popQ, s_pop, s_popS, tup2.eq_1, tup2.eq_2, sub1, s_swp, sub2, s_swp2, f_lrng, s_for, isScr.eq_1, isScr.eq_2, s_draw, s_raise, strQ.eq_1, strQ.eq_2, intQ.eq_1, intQ.eq_2, s_raiseR, only, exM.eq_1, exM.eq_2, exM.eq_3, s_tryM, exMR.eq_1, exMR.eq_2, exMR.eq_3, s_tryMR, F_angle, startL.eq_1, startL.eq_2, startL.eq_3, start, List.set_cons_zero, List.set_cons_succ, List.getElem?_cons_zero, List.getElem?_cons_succ, List.length_cons, List.length_nil, List.cons_append, List.nil_append, List.replicate, if_true, if_false, Bool.false_eq_true, Bool.true_and, Bool.false_and, Bool.and_true, Bool.and_false, Bool.not_true, Bool.not_false, Bool.or_true, Bool.or_false, Bool.true_or, Bool.false_or, true_and, and_true, ite_self, reduceCtorEq, forL, lcL]
        split
        · exact fin w w0 w8 8 (by decide) (by decide) (fun _ => rfl)
        · rename_i hne
          simp only [LN, e_c, vOf.eq_1, vOf.eq_2, bOf.eq_1, bOf.eq_2, bOf.eq_3, e_v, b_v, e_f, e_op, e_un, o_add.eq_1, o_add.eq_2, o_add.eq_3, o_add.eq_4, o_add.eq_5, o_sub.eq_1, o_sub.eq_2, o_mul.eq_1, o_mul.eq_2, o_mul.eq_3, o_mul.eq_4, o_fdiv.eq_1, o_fdiv.eq_2, o_mod.eq_1, o_mod.eq_2, o_lt.eq_1, o_lt.eq_2, o_le.eq_1, o_le.eq_2, o_gt.eq_1, o_gt.eq_2, o_ge.eq_1, o_ge.eq_2, o_eq_int, o_ne_int, isNone.eq_1, isNone.eq_2, o_isN, o_notN, o_isB.eq_1, o_isB.eq_2, o_notB.eq_1, o_notB.eq_2, o_neg.eq_1, o_neg.eq_2, kOf.eq_1, kOf.eq_2, c_e, c_and, c_or, c_not, e_and, e_or, e_not, e_if, e_ch, a_nil, a_cons, isDraw.eq_1, isDraw.eq_2, a_draw, e_tup, listOf.eq_1, listOf.eq_2, f_op, f_lst, e_call, oOf.eq_1, oOf.eq_2, o_ix.eq_1, o_ix.eq_2, o_ix.eq_3, iOf.eq_1, iOf.eq_2, p_none, p_some, o_sl.eq_1, o_sl.eq_2, o_sl.eq_3, e_sl, o_len.eq_1, o_len.eq_2, o_len.eq_3, o_len.eq_4, o_abs.eq_1, o_abs.eq_2, o_int.eq_1, o_int.eq_2, o_int.eq_3, isTy.eq_1, isTy.eq_2, isTy.eq_3, isTy.eq_4, isTy.eq_5, isTy.eq_6, isTy.eq_7, o_isin, o_tuple.eq_1, o_tuple.eq_2, o_tuple.eq_3, seqQ.eq_1, seqQ.eq_2, seqQ.eq_3, f_list, someOf.eq_1, someOf.eq_2, o_sum, o_maxS, o_minS, o_all.eq_1, o_all.eq_2, o_any.eq_1, o_any.eq_2, o_max.eq_1, o_max.eq_2, o_min.eq_1, o_min.eq_2, o_min3.eq_1, o_min3.eq_2, e_op3, o_repr, i_seq, nOf.eq_1, nOf.eq_2, i_rng1, i_rng2, i_rngD, rgOf.eq_1, rgOf.eq_2, i_rngV, i_num, i_zip2, i_zip, i_enum, g_n, g_nil.eq_1, g_nil.eq_2, g_cons.eq_1, g_cons.eq_2, g_tup.eq_1, g_tup.eq_2, wipeE.eq_1, wipeE.eq_2, f_lc, c_yes, s_nil, s_seq, s_brk, s_cnt, s_set, s_own, s_rng, s_unp, s_par, s_if, s_ret, s_ex, frzA.eq_1, frzA.eq_2, frzA.eq_3, frz, s_frz, ownOf.eq_1, ownOf.eq_2, s_app, s_insert, ixOf, o_rev.eq_1, o_rev.eq_2, nstOf.eq_1, nstOf.eq_2, b_nix, s_sub2, s_app2, lcN.eq_1, lcN.eq_2, s_nst, s_sub, popQ, s_pop, s_popS, tup2.eq_1, tup2.eq_2, sub1, s_swp, sub2, s_swp2, f_lrng, s_for, isScr.eq_1, isScr.eq_2, s_draw, s_raise, strQ.eq_1, strQ.eq_2, intQ.eq_1, intQ.eq_2, s_raiseR, only, exM.eq_1, exM.eq_2, exM.eq_3, s_tryM, exMR.eq_1, exMR.eq_2, exMR.eq_3, s_tryMR, F_angle, startL.eq_1, startL.eq_2, startL.eq_3, start, List.set_cons_zero, List.set_cons_succ, List.getElem?_cons_zero, List.getElem?_cons_succ, List.length_cons, List.length_nil, List.cons_append, List.nil_append, List.replicate, if_true, if_false, Bool.false_eq_true, Bool.true_and, Bool.false_and, Bool.and_true, Bool.and_false, Bool.not_true, Bool.not_false, Bool.or_true, Bool.or_false, Bool.true_or, Bool.false_or, true_and, and_true, ite_self, reduceCtorEq, forL, lcL, bOf_isL hs2, hleft2]
          refine p_take (by decide) (by decide) fun r r0 r4 => ?_
          simp only [LN, e_c, vOf.eq_1, vOf.eq_2, bOf.eq_1, bOf.eq_2, bOf.eq_3, e_v, b_v, e_f, e_op, e_un, o_add.eq_1, o_add.eq_2, o_add.eq_3, o_add.eq_4, o_add.eq_5, o_sub.eq_1, o_sub.eq_2, o_mul.eq_1, o_mul.eq_2, o_mul.eq_3, o_mul.eq_4, o_fdiv.eq_1, o_fdiv.eq_2, o_mod.eq_1, o_mod.eq_2, o_lt.eq_1, o_lt.eq_2, o_le.eq_1, o_le.eq_2, o_gt.eq_1, o_gt.eq_2, o_ge.eq_1, o_ge.eq_2, o_eq_int, o_ne_int, isNone.eq_1, isNone.eq_2, o_isN, o_notN, o_isB.eq_1, o_isB.eq_2, o_notB.eq_1, o_notB.eq_2, o_neg.eq_1, o_neg.eq_2, kOf.eq_1, kOf.eq_2, c_e, c_and, c_or, c_not, e_and, e_or, e_not, e_if, e_ch, a_nil, a_cons, isDraw.eq_1, isDraw.eq_2, a_draw, e_tup, listOf.eq_1, listOf.eq_2, f_op, f_lst, e_call, oOf.eq_1, oOf.eq_2, o_ix.eq_1, o_ix.eq_2, o_ix.eq_3, iOf.eq_1, iOf.eq_2, p_none, p_some, o_sl.eq_1, o_sl.eq_2, o_sl.eq_3, e_sl, o_len.eq_1, o_len.eq_2, o_len.eq_3, o_len.eq_4, o_abs.eq_1, o_abs.eq_2, o_int.eq_1, o_int.eq_2, o_int.eq_3, isTy.eq_1, isTy.eq_2, isTy.eq_3, isTy.eq_4, isTy.eq_5, isTy.eq_6, isTy.eq_7, o_isin, o_tuple.eq_1, o_tuple.eq_2, o_tuple.eq_3, seqQ.eq_1, seqQ.eq_2, seqQ.eq_3, f_list, someOf.eq_1, someOf.eq_2, o_sum, o_maxS, o_minS, o_all.eq_1, o_all.eq_2, o_any.eq_1, o_any.eq_2, o_max.eq_1, o_max.eq_2, o_min.eq_1, o_min.eq_2, o_min3.eq_1, o_min3.eq_2, e_op3, o_repr, i_seq, nOf.eq_1, nOf.eq_2, i_rng1, i_rng2, i_rngD, rgOf.eq_1, rgOf.eq_2, i_rngV, i_num, i_zip2, i_zip, i_enum, g_n, g_nil.eq_1, g_nil.eq_2, g_cons.eq_1, g_cons.eq_2, g_tup.eq_1, g_tup.eq_2, wipeE.eq_1, wipeE.eq_2, f_lc, c_yes, s_nil, s_seq, s_brk, s_cnt, s_set, s_own, s_rng, s_unp, s_par, s_if, s_ret, s_ex, frzA.eq_1, frzA.eq_2, frzA.eq_3, frz, s_frz, ownOf.eq_1, ownOf.eq_2, s_app, s_insert, ixOf, o_rev.eq_1, o_rev.eq_2, nstOf.eq_1, nstOf.eq_2, b_nix, s_sub2, s_app2, lcN.eq_1, lcN.eq_2, s_nst, s_sub, popQ, s_pop, s_popS, tup2.eq_1, tup2.eq_2, sub1, s_swp, sub2, s_swp2, f_lrng, s_for, isScr.eq_1, isScr.eq_2, s_draw, s_raise, strQ.eq_1, strQ.eq_2, intQ.eq_1, intQ.eq_2, s_raiseR, only, exM.eq_1, exM.eq_2, exM.eq_3, s_tryM, exMR.eq_1, exMR.eq_2, exMR.eq_3, s_tryMR, F_angle, startL.eq_1, startL.eq_2, startL.eq_3, start, List.set_cons_zero, List.set_cons_succ, List.getElem?_cons_zero, List.getElem?_cons_succ, List.length_cons, List.length_nil, List.cons_append, List.nil_append, List.replicate, if_true, if_false, Bool.false_eq_true, Bool.true_and, Bool.false_and, Bool.and_true, Bool.and_false, Bool.not_true, Bool.not_false, Bool.or_true, Bool.or_false, Bool.true_or, Bool.false_or, true_and, and_true, ite_self, reduceCtorEq, forL, lcL]
          refine fin w w0 w8 _ ?_ ?_ (fun e => absurd e hne)
          · split <;> omega
          · split <;> omega
      by_cases hj0 : j = 0
      · subst hj0
        have := low 0 (by decide) (by decide)
        have h0 : (((0 : Nat) : Int) == 0) = true := rfl
        simp only [h0, LN, e_c, vOf.eq_1, vOf.eq_2, bOf.eq_1, bOf.eq_2, bOf.eq_3, e_v, b_v, e_f, e_op, e_un, o_add.eq_1, o_add.eq_2, o_add.eq_3, o_add.eq_4, o_add.eq_5, o_sub.eq_1, o_sub.eq_2, o_mul.eq_1, o_mul.eq_2, o_mul.eq_3, o_mul.eq_4, o_fdiv.eq_1, o_fdiv.eq_2, o_mod.eq_1, o_mod.eq_2, o_lt.eq_1, o_lt.eq_2, o_le.eq_1, o_le.eq_2, o_gt.eq_1, o_gt.eq_2, o_ge.eq_1, o_ge.eq_2, o_eq_int, o_ne_int, isNone.eq_1, isNone.eq_2, o_isN, o_notN, o_isB.eq_1, o_isB.eq_2, o_notB.eq_1, o_notB.eq_2, o_neg.eq_1, o_neg.eq_2, kOf.eq_1, kOf.eq_2, c_e, c_and, c_or, c_not, e_and, e_or, e_not, e_if, e_ch, a_nil, a_cons, isDraw.eq_1, isDraw.eq_2, a_draw, e_tup, listOf.eq_1, listOf.eq_2, f_op, f_lst, e_call, oOf.eq_1, oOf.eq_2, o_ix.eq_1, o_ix.eq_2, o_ix.eq_3, iOf.eq_1, iOf.eq_2, p_none, p_some, o_sl.eq_1, o_sl.eq_2, o_sl.eq_3, e_sl, o_len.eq_1, o_len.eq_2, o_len.eq_3, o_len.eq_4, o_abs.eq_1, o_abs.eq_2, o_int.eq_1, o_int.eq_2, o_int.eq_3, isTy.eq_1, isTy.eq_2, isTy.eq_3, isTy.eq_4, isTy.eq_5, isTy.eq_6, isTy.eq_7, o_isin, o_tuple.eq_1, o_tuple.eq_2, o_tuple.eq_3, seqQ.eq_1, seqQ.eq_2, seqQ.eq_3, f_list, someOf.eq_1, someOf.eq_2, o_sum, o_maxS, o_minS, o_all.eq_1, o_all.eq_2, o_any.eq_1, o_any.eq_2, o_max.eq_1, o_max.eq_2, o_min.eq_1, o_min.eq_2, o_min3.eq_1, o_min3.eq_2, e_op3, o_repr, i_seq, nOf.eq_1, nOf.eq_2, i_rng1, i_rng2, i_rngD, rgOf.eq_1, rgOf.eq_2, i_rngV, i_num, i_zip2, i_zip, i_enum, g_n, g_nil.eq_1, g_nil.eq_2, g_cons.eq_1, g_cons.eq_2, g_tup.eq_1, g_tup.eq_2, wipeE.eq_1, wipeE.eq_2, f_lc, c_yes, s_nil, s_seq, s_brk, s_cnt, s_set, s_own, s_rng, s_unp, s_par, s_if, s_ret, s_ex, frzA.eq_1, frzA.eq_2, frzA.eq_3, frz, s_frz, ownOf.eq_1, ownOf.eq_2, s_app, s_insert, ixOf, o_rev.eq_1, o_rev.eq_2, nstOf.eq_1, nstOf.eq_2, b_nix, s_sub2, s_app2, lcN.eq_1, lcN.eq_2, s_nst, s_sub, popQ, s_pop, s_popS, tup2.eq_1, tup2.eq_2, sub1, s_swp, sub2, s_swp2, f_lrng, s_for, isScr.eq_1, isScr.eq_2, s_draw, s_raise, strQ.eq_1, strQ.eq_2, intQ.eq_1, intQ.eq_2, s_raiseR, only, exM.eq_1, exM.eq_2, exM.eq_3, s_tryM, exMR.eq_1, exMR.eq_2, exMR.eq_3, s_tryMR, F_angle, startL.eq_1, startL.eq_2, startL.eq_3, start, List.set_cons_zero, List.set_cons_succ, List.getElem?_cons_zero, List.getElem?_cons_succ, List.length_cons, List.length_nil, List.cons_append, List.nil_append, List.replicate, if_true, if_false, Bool.false_eq_true, Bool.true_and, Bool.false_and, Bool.and_true, Bool.and_false, Bool.not_true, Bool.not_false, Bool.or_true, Bool.or_false, Bool.true_or, Bool.false_or, true_and, and_true, ite_self, reduceCtorEq, forL, lcL] at this ⊢
        exact this
      · have h0 : ((j : Int) == 0) = false := by simp; omega
        have hb := bnd_at hrb (show j - 1 < row.length by omega)
        have := low _ hb.1 hb.2
        simp only [h0, LN, e_c, vOf.eq_1, vOf.eq_2, bOf.eq_1, bOf.eq_2, bOf.eq_3, e_v, b_v, e_f, e_op, e_un, o_add.eq_1, o_add.eq_2, o_add.eq_3, o_add.eq_4, o_add.eq_5, o_sub.eq_1, o_sub.eq_2, o_mul.eq_1, o_mul.eq_2, o_mul.eq_3, o_mul.eq_4, o_fdiv.eq_1, o_fdiv.eq_2, o_mod.eq_1, o_mod.eq_2, o_lt.eq_1, o_lt.eq_2, o_le.eq_1, o_le.eq_2, o_gt.eq_1, o_gt.eq_2, o_ge.eq_1, o_ge.eq_2, o_eq_int, o_ne_int, isNone.eq_1, isNone.eq_2, o_isN, o_notN, o_isB.eq_1, o_isB.eq_2, o_notB.eq_1, o_notB.eq_2, o_neg.eq_1, o_neg.eq_2, kOf.eq_1, kOf.eq_2, c_e, c_and, c_or, c_not, e_and, e_or, e_not, e_if, e_ch, a_nil, a_cons, isDraw.eq_1, isDraw.eq_2, a_draw, e_tup, listOf.eq_1, listOf.eq_2, f_op, f_lst, e_call, oOf.eq_1, oOf.eq_2, o_ix.eq_1, o_ix.eq_2, o_ix.eq_3, iOf.eq_1, iOf.eq_2, p_none, p_some, o_sl.eq_1, o_sl.eq_2, o_sl.eq_3, e_sl, o_len.eq_1, o_len.eq_2, o_len.eq_3, o_len.eq_4, o_abs.eq_1, o_abs.eq_2, o_int.eq_1, o_int.eq_2, o_int.eq_3, isTy.eq_1, isTy.eq_2, isTy.eq_3, isTy.eq_4, isTy.eq_5, isTy.eq_6, isTy.eq_7, o_isin, o_tuple.eq_1, o_tuple.eq_2, o_tuple.eq_3, seqQ.eq_1, seqQ.eq_2, seqQ.eq_3, f_list, someOf.eq_1, someOf.eq_2, o_sum, o_maxS, o_minS, o_all.eq_1, o_all.eq_2, o_any.eq_1, o_any.eq_2, o_max.eq_1, o_max.eq_2, o_min.eq_1, o_min.eq_2, o_min3.eq_1, o_min3.eq_2, e_op3, o_repr, i_seq, nOf.eq_1, nOf.eq_2, i_rng1, i_rng2, i_rngD, rgOf.eq_1, rgOf.eq_2, i_rngV, i_num, i_zip2, i_zip, i_enum, g_n, g_nil.eq_1, g_nil.eq_2, g_cons.eq_1, g_cons.eq_2, g_tup.eq_1, g_tup.eq_2, wipeE.eq_1, wipeE.eq_2, f_lc, c_yes, s_nil, s_seq, s_brk, s_cnt, s_set, s_own, s_rng, s_unp, s_par, s_if, s_ret, s_ex, frzA.eq_1, frzA.eq_2, frzA.eq_3, frz, s_frz, ownOf.eq_1, ownOf.eq_2, s_app, s_insert, ixOf, o_rev.eq_1, o_rev.eq_2, nstOf.eq_1, nstOf.eq_2, b_nix, s_sub2, s_app2, lcN.eq_1, lcN.eq_2, s_nst, s_sub, popQ, s_pop, s_popS, tup2.eq_1, tup2.eq_2, sub1, s_swp, sub2, s_swp2, f_lrng, s_for, isScr.eq_1, isScr.eq_2, s_draw, s_raise, strQ.eq_1, strQ.eq_2, intQ.eq_1, intQ.eq_2, s_raiseR, only, exM.eq_1, exM.eq_2, exM.eq_3, s_tryM, exMR.eq_1, exMR.eq_2, exMR.eq_3, s_tryMR, F_angle, startL.eq_1, startL.eq_2, startL.eq_3, start, List.set_cons_zero, List.set_cons_succ, List.getElem?_cons_zero, List.getElem?_cons_succ, List.length_cons, List.length_nil, List.cons_append, List.nil_append, List.replicate, if_true, if_false, Bool.false_eq_true, Bool.true_and, Bool.false_and, Bool.and_true, Bool.and_false, Bool.not_true, Bool.not_false, Bool.or_true, Bool.or_false, Bool.true_or, Bool.false_or, true_and, and_true, ite_self, reduceCtorEq, forL, lcL, at_pred (show 0 < j by omega) (show j - 1 < row.length by omega)] at this ⊢
        exact this
    case fin1 =>
      rintro ρ ⟨row0, y6, y7, rfl, hrl0, hrb0, hlast0⟩
      simp only [LN, e_c, vOf.eq_1, vOf.eq_2, bOf.eq_1, bOf.eq_2, bOf.eq_3, e_v, b_v, e_f, e_op, e_un, o_add.eq_1, o_add.eq_2, o_add.eq_3, o_add.eq_4, o_add.eq_5, o_sub.eq_1, o_sub.eq_2, o_mul.eq_1, o_mul.eq_2, o_mul.eq_3, o_mul.eq_4, o_fdiv.eq_1, o_fdiv.eq_2, o_mod.eq_1, o_mod.eq_2, o_lt.eq_1, o_lt.eq_2, o_le.eq_1, o_le.eq_2, o_gt.eq_1, o_gt.eq_2, o_ge.eq_1, o_ge.eq_2, o_eq_int, o_ne_int, isNone.eq_1, isNone.eq_2, o_isN, o_notN, o_isB.eq_1, o_isB.eq_2, o_notB.eq_1, o_notB.eq_2, o_neg.eq_1, o_neg.eq_2, kOf.eq_1, kOf.eq_2, c_e, c_and, c_or, c_not, e_and, e_or, e_not, e_if, e_ch, a_nil, a_cons, isDraw.eq_1, isDraw.eq_2, a_draw, e_tup, listOf.eq_1, listOf.eq_2, f_op, f_lst, e_call, oOf.eq_1, oOf.eq_2, o_ix.eq_1, o_ix.eq_2, o_ix.eq_3, iOf.eq_1, iOf.eq_2, p_none, p_some, o_sl.eq_1, o_sl.eq_2, o_sl.eq_3, e_sl, o_len.eq_1, o_len.eq_2, o_len.eq_3, o_len.eq_4, o_abs.eq_1, o_abs.eq_2, o_int.eq_1, o_int.eq_2, o_int.eq_3, isTy.eq_1, isTy.eq_2, isTy.eq_3, isTy.eq_4, isTy.eq_5, isTy.eq_6, isTy.eq_7, o_isin, o_tuple.eq_1, o_tuple.eq_2, o_tuple.eq_3, seqQ.eq_1, seqQ.eq_2, seqQ.eq_3, f_list, someOf.eq_1, someOf.eq_2, o_sum, o_maxS, o_minS, o_all.eq_1, o_all.eq_2, o_any.eq_1, o_any.eq_2, o_max.eq_1, o_max.eq_2, o_min.eq_1, o_min.eq_2, o_min3.eq_1, o_min3.eq_2, e_op3, o_repr, i_seq, nOf.eq_1, nOf.eq_2, i_rng1, i_rng2, i_rngD, rgOf.eq_1, rgOf.eq_2, i_rngV, i_num, i_zip2, i_zip, i_enum, g_n, g_nil.eq_1, g_nil.eq_2, g_cons.eq_1, g_cons.eq_2, g_tup.eq_1, g_tup.eq_2, wipeE.eq_1, wipeE.eq_2, f_lc, c_yes, s_nil, s_seq, s_brk, s_cnt, s_set, s_own, s_rng, s_unp, s_par, s_if, s_ret, s_ex, frzA.eq_1, frzA.eq_2, frzA.eq_3, frz, s_frz, ownOf.eq_1, ownOf.eq_2, s_app, s_insert, ixOf, o_rev.eq_1, o_rev.eq_2, nstOf.eq_1, nstOf.eq_2, b_nix, s_sub2, s_app2, lcN.eq_1, lcN.eq_2, s_nst, s_sub, popQ, s_pop, s_popS, tup2.eq_1, tup2.eq_2, sub1, s_swp, sub2, s_swp2, f_lrng, s_for, isScr.eq_1, isScr.eq_2, s_draw, s_raise, strQ.eq_1, strQ.eq_2, intQ.eq_1, intQ.eq_2, s_raiseR, only, exM.eq_1, exM.eq_2, exM.eq_3, s_tryM, exMR.eq_1, exMR.eq_2, exMR.eq_3, s_tryMR, F_angle, startL.eq_1, startL.eq_2, startL.eq_3, start, List.set_cons_zero, List.set_cons_succ, List.getElem?_cons_zero, List.getElem?_cons_succ, List.length_cons, List.length_nil, List.cons_append, List.nil_append, List.replicate, if_true, if_false, Bool.false_eq_true, Bool.true_and, Bool.false_and, Bool.and_true, Bool.and_false, Bool.not_true, Bool.not_false, Bool.or_true, Bool.or_false, Bool.true_or, Bool.false_or, true_and, and_true, ite_self, reduceCtorEq, forL, lcL, Int.zero_add]
      refine ⟨by unfold rOk; omega, ?_⟩
      rw [show ((n : Int) - 2 - -1).toNat = n - 1 by omega]
      refine for_down (fun t ρ => ∃ row y6, ρ = [.draw, .val (.int n), s2, .own (List.map lR m), .val (.int k), .own (iL row), y6, y7] ∧ row.length = n ∧ bnd 8 row ∧ row.getD (n - 1) 0 = 8 ∧ ∀ j, n - 1 - t ≤ j → j + 1 < n → row.getD j 0 ≤ row.getD (j + 1) 0) (n - 1) _ ?step2 ⟨row0, _, rfl, hrl0, hrb0, hlast0 rfl, fun j _ _ => by omega⟩ ?fin2
      case step2 =>
        rintro t ρ N2 ht ⟨row, y6, rfl, hrl, hrb, hlast, hmono⟩ hN2
        obtain ⟨j, hj⟩ : ∃ j : Nat, n = j + t + 2 := ⟨n - 2 - t, by omega⟩
        rw [show (n : Int) - 2 - t = (j : Nat) by omega]
        have a1 := at_iL (show j < row.length by omega)
        have a2 := at_iL (show j < left.length by omega)
        have a3 := at_iL (show j + 1 < row.length by omega)
        rw [Int.natCast_add] at a3
        have b1 := bnd_at hrb (show j < row.length by omega)
        have b2 := bnd_at hlb (show j < left.length by omega)
        have b3 := bnd_at hrb (show j + 1 < row.length by omega)
        have hj0 : (0 : Int) ≤ (j : Int) := by omega
        simp only [LN, e_c, vOf.eq_1, vOf.eq_2, bOf.eq_1, bOf.eq_2, bOf.eq_3, e_v, b_v, e_f, e_op, e_un, o_add.eq_1, o_add.eq_2, o_add.eq_3, o_add.eq_4, o_add.eq_5, o_sub.eq_1, o_sub.eq_2, o_mul.eq_1, o_mul.eq_2, o_mul.eq_3, o_mul.eq_4, o_fdiv.eq_1, o_fdiv.eq_2, o_mod.eq_1, o_mod.eq_2, o_lt.eq_1, o_lt.eq_2, o_le.eq_1, o_le.eq_2, o_gt.eq_1, o_gt.eq_2, o_ge.eq_1, o_ge.eq_2, o_eq_int, o_ne_int, isNone.eq_1, isNone.eq_2, o_isN, o_notN, o_isB.eq_1, o_isB.eq_2, o_notB.eq_1, o_notB.eq_2, o_neg.eq_1, o_neg.eq_2, kOf.eq_1, kOf.eq_2, c_e, c_and, c_or, c_not, e_and, e_or, e_not, e_if, e_ch, a_nil, a_cons, isDraw.eq_1, isDraw.eq_2, a_draw, e_tup, listOf.eq_1, listOf.eq_2, f_op, f_lst, e_call, oOf.eq_1, oOf.eq_2, o_ix.eq_1, o_ix.eq_2, o_ix.eq_3, iOf.eq_1, iOf.eq_2, p_none, p_some, o_sl.eq_1, o_sl.eq_2, o_sl.eq_3, e_sl, o_len.eq_1, o_len.eq_2, o_len.eq_3, o_len.eq_4, o_abs.eq_1, o_abs.eq_2, o_int.eq_1, o_int.eq_2, o_int.eq_3, isTy.eq_1, isTy.eq_2, isTy.eq_3, isTy.eq_4, isTy.eq_5, isTy.eq_6, isTy.eq_7, o_isin, o_tuple.eq_1, o_tuple.eq_2, o_tuple.eq_3, seqQ.eq_1, seqQ.eq_2, seqQ.eq_3, f_list, someOf.eq_1, someOf.eq_2, o_sum, o_maxS, o_minS, o_all.eq_1, o_all.eq_2, o_any.eq_1, o_any.eq_2, o_max.eq_1, o_max.eq_2, o_min.eq_1, o_min.eq_2, o_min3.eq_1, o_min3.eq_2, e_op3, o_repr, i_seq, nOf.eq_1, nOf.eq_2, i_rng1, i_rng2, i_rngD, rgOf.eq_1, rgOf.eq_2, i_rngV, i_num, i_zip2, i_zip, i_enum, g_n, g_nil.eq_1, g_nil.eq_2, g_cons.eq_1, g_cons.eq_2, g_tup.eq_1, g_tup.eq_2, wipeE.eq_1, wipeE.eq_2, f_lc, c_yes, s_nil, s_seq, s_brk, s_cnt, s_set, s_own, s_rng, s_unp, s_par, s_if, s_ret, s_ex, frzA.eq_1, frzA.eq_2, frzA.eq_3, frz, s_frz, ownOf.eq_1, ownOf.eq_2, s_app, s_insert, ixOf, o_rev.eq_1, o_rev.eq_2, nstOf.eq_1, nstOf.eq_2, b_nix, s_sub2, s_app2, lcN.eq_1, lcN.eq_2, s_nst, s_sub, popQ, s_pop, s_popS, tup2.eq_1, tup2.eq_2, sub1, s_swp, sub2, s_swp2, f_lrng, s_for, isScr.eq_1, isScr.eq_2, s_draw, s_raise, strQ.eq_1, strQ.eq_2, intQ.eq_1, intQ.eq_2, s_raiseR, only, exM.eq_1, exM.eq_2, exM.eq_3, s_tryM, exMR.eq_1, exMR.eq_2, exMR.eq_3, s_tryMR, F_angle, startL.eq_1, startL.eq_2, startL.eq_3, start, List.set_cons_zero, List.set_cons_succ, List.getElem?_cons_zero, List.getElem?_cons_succ, List.length_cons, List.length_nil, List.cons_append, List.nil_append, List.replicate, if_true, if_false, Bool.false_eq_true, Bool.true_and, Bool.false_and, Bool.and_true, Bool.and_false, Bool.not_true, Bool.not_false, Bool.or_true, Bool.or_false, Bool.true_or, Bool.false_or, true_and, and_true, ite_self, reduceCtorEq, forL, lcL, bOf_isL hs2, a1, a2, Int.natCast_one ▸ a3, if_pos hj0, Int.toNat_natCast]
        generalize hv : (if left.getD j 0 < row.getD j 0 then if row.getD (j + 1) 0 < left.getD j 0 then row.getD (j + 1) 0 else left.getD j 0 else if row.getD (j + 1) 0 < row.getD j 0 then row.getD (j + 1) 0 else row.getD j 0) = v
        have hv0 : 0 ≤ v ∧ v ≤ 8 ∧ v ≤ row.getD (j + 1) 0 := by
          subst hv
          split
          · split <;> omega
          · split <;> omega
        refine ⟨by rw [iL_len]; omega, hN2 _ ⟨row.set j v, _, by rw [iL_set], by simp [hrl], fun z hz => ?_, ?_, fun i hi hin => ?_⟩⟩
        · rcases List.mem_or_eq_of_mem_set hz with hz | rfl
          · exact hrb z hz
          · exact ⟨hv0.1, hv0.2.1⟩
        · rw [getD_set _ _ _ _ (by omega), if_neg (by omega)]
          exact hlast
        · rw [getD_set _ _ _ _ (by omega), getD_set _ _ _ _ (by omega), if_neg (show ¬ i + 1 = j by omega)]
          split
          · rename_i e; subst e; exact hv0.2.2
          · exact hmono i (by omega) hin
      case fin2 =>
        rintro ρ ⟨row, y6, rfl, hrl, hrb, hlast, hmono⟩
        simp only [LN, e_c, vOf.eq_1, vOf.eq_2, bOf.eq_1, bOf.eq_2, bOf.eq_3, e_v, b_v, e_f, e_op, e_un, o_add.eq_1, o_add.eq_2, o_add.eq_3, o_add.eq_4, o_add.eq_5, o_sub.eq_1, o_sub.eq_2, o_mul.eq_1, o_mul.eq_2, o_mul.eq_3, o_mul.eq_4, o_fdiv.eq_1, o_fdiv.eq_2, o_mod.eq_1, o_mod.eq_2, o_lt.eq_1, o_lt.eq_2, o_le.eq_1, o_le.eq_2, o_gt.eq_1, o_gt.eq_2, o_ge.eq_1, o_ge.eq_2, o_eq_int, o_ne_int, isNone.eq_1, isNone.eq_2, o_isN, o_notN, o_isB.eq_1, o_isB.eq_2, o_notB.eq_1, o_notB.eq_2, o_neg.eq_1, o_neg.eq_2, kOf.eq_1, kOf.eq_2, c_e, c_and, c_or, c_not, e_and, e_or, e_not, e_if, e_ch, a_nil, a_cons, isDraw.eq_1, isDraw.eq_2, a_draw, e_tup, listOf.eq_1, listOf.eq_2, f_op, f_lst, e_call, oOf.eq_1, oOf.eq_2, o_ix.eq_1, o_ix.eq_2, o_ix.eq_3, iOf.eq_1, iOf.eq_2, p_none, p_some, o_sl.eq_1, o_sl.eq_2, o_sl.eq_3, e_sl, o_len.eq_1, o_len.eq_2, o_len.eq_3, o_len.eq_4, o_abs.eq_1, o_abs.eq_2, o_int.eq_1, o_int.eq_2, o_int.eq_3, isTy.eq_1, isTy.eq_2, isTy.eq_3, isTy.eq_4, isTy.eq_5, isTy.eq_6, isTy.eq_7, o_isin, o_tuple.eq_1, o_tuple.eq_2, o_tuple.eq_3, seqQ.eq_1, seqQ.eq_2, seqQ.eq_3, f_list, someOf.eq_1, someOf.eq_2, o_sum, o_maxS, o_minS, o_all.eq_1, o_all.eq_2, o_any.eq_1, o_any.eq_2, o_max.eq_1, o_max.eq_2, o_min.eq_1, o_min.eq_2, o_min3.eq_1, o_min3.eq_2, e_op3, o_repr, i_seq, nOf.eq_1, nOf.eq_2, i_rng1, i_rng2, i_rngD, rgOf.eq_1, rgOf.eq_2, i_rngV, i_num, i_zip2, i_zip, i_enum, g_n, g_nil.eq_1, g_nil.eq_2, g_cons.eq_1, g_cons.eq_2, g_tup.eq_1, g_tup.eq_2, wipeE.eq_1, wipeE.eq_2, f_lc, c_yes, s_nil, s_seq, s_brk, s_cnt, s_set, s_own, s_rng, s_unp, s_par, s_if, s_ret, s_ex, frzA.eq_1, frzA.eq_2, frzA.eq_3, frz, s_frz, ownOf.eq_1, ownOf.eq_2, s_app, s_insert, ixOf, o_rev.eq_1, o_rev.eq_2, nstOf.eq_1, nstOf.eq_2, b_nix, s_sub2, s_app2, lcN.eq_1, lcN.eq_2, s_nst, s_sub, popQ, s_pop, s_popS, tup2.eq_1, tup2.eq_2, sub1, s_swp, sub2, s_swp2, f_lrng, s_for, isScr.eq_1, isScr.eq_2, s_draw, s_raise, strQ.eq_1, strQ.eq_2, intQ.eq_1, intQ.eq_2, s_raiseR, only, exM.eq_1, exM.eq_2, exM.eq_3, s_tryM, exMR.eq_1, exMR.eq_2, exMR.eq_3, s_tryMR, F_angle, startL.eq_1, startL.eq_2, startL.eq_3, start, List.set_cons_zero, List.set_cons_succ, List.getElem?_cons_zero, List.getElem?_cons_succ, List.length_cons, List.length_nil, List.cons_append, List.nil_append, List.replicate, if_true, if_false, Bool.false_eq_true, Bool.true_and, Bool.false_and, Bool.and_true, Bool.and_false, Bool.not_true, Bool.not_false, Bool.or_true, Bool.or_false, Bool.true_or, Bool.false_or, true_and, and_true, ite_self, reduceCtorEq, forL, lcL]
        refine ⟨by unfold rOk; omega, ?_⟩
        rw [Int.toNat_natCast, upTo_eq]
        refine ⟨by simp; omega, ?_⟩
        have ds : ((List.range n).map (dif row)).sum = 8 := by
          have := dif_sum row (n - 1)
          rwa [show n - 1 + 1 = n by omega, hlast] at this
        have dp : ∀ z ∈ (List.range n).map (dif row), 0 ≤ z := fun z hz => by
          obtain ⟨j, hj, rfl⟩ := List.mem_map.mp hz
          rw [List.mem_range] at hj
          unfold dif
          have b1 := bnd_at hrb (show j < row.length by omega)
          split
          · have := hmono (j - 1) (by omega) (by omega)
            rw [show j - 1 + 1 = j by omega] at this
            omega
          · omega
        obtain ⟨s1, s2⟩ := shares_of (n := n) (by simp) dp ds (by decide)
        refine lc_fun (zF fun z => rD (Rat.divInt (dif row z.toNat) 8)) _ [] (fun d hd P hP => ?_) ?_
        · obtain ⟨j, hj, rfl⟩ := List.mem_map.mp hd
          rw [List.mem_range] at hj
          simp only [zF, Int.zero_add, Int.toNat_natCast] at hP
          have a1 := at_iL (show j < row.length by omega)
          simp only [LN, e_c, vOf.eq_1, vOf.eq_2, bOf.eq_1, bOf.eq_2, bOf.eq_3, e_v, b_v, e_f, e_op, e_un, o_add.eq_1, o_add.eq_2, o_add.eq_3, o_add.eq_4, o_add.eq_5, o_sub.eq_1, o_sub.eq_2, o_mul.eq_1, o_mul.eq_2, o_mul.eq_3, o_mul.eq_4, o_fdiv.eq_1, o_fdiv.eq_2, o_mod.eq_1, o_mod.eq_2, o_lt.eq_1, o_lt.eq_2, o_le.eq_1, o_le.eq_2, o_gt.eq_1, o_gt.eq_2, o_ge.eq_1, o_ge.eq_2, o_eq_int, o_ne_int, isNone.eq_1, isNone.eq_2, o_isN, o_notN, o_isB.eq_1, o_isB.eq_2, o_notB.eq_1, o_notB.eq_2, o_neg.eq_1, o_neg.eq_2, kOf.eq_1, kOf.eq_2, c_e, c_and, c_or, c_not, e_and, e_or, e_not, e_if, e_ch, a_nil, a_cons, isDraw.eq_1, isDraw.eq_2, a_draw, e_tup, listOf.eq_1, listOf.eq_2, f_op, f_lst, e_call, oOf.eq_1, oOf.eq_2, o_ix.eq_1, o_ix.eq_2, o_ix.eq_3, iOf.eq_1, iOf.eq_2, p_none, p_some, o_sl.eq_1, o_sl.eq_2, o_sl.eq_3, e_sl, o_len.eq_1, o_len.eq_2, o_len.eq_3, o_len.eq_4, o_abs.eq_1, o_abs.eq_2, o_int.eq_1, o_int.eq_2, o_int.eq_3, isTy.eq_1, isTy.eq_2, isTy.eq_3, isTy.eq_4, isTy.eq_5, isTy.eq_6, isTy.eq_7, o_isin, o_tuple.eq_1, o_tuple.eq_2, o_tuple.eq_3, seqQ.eq_1, seqQ.eq_2, seqQ.eq_3, f_list, someOf.eq_1, someOf.eq_2, o_sum, o_maxS, o_minS, o_all.eq_1, o_all.eq_2, o_any.eq_1, o_any.eq_2, o_max.eq_1, o_max.eq_2, o_min.eq_1, o_min.eq_2, o_min3.eq_1, o_min3.eq_2, e_op3, o_repr, i_seq, nOf.eq_1, nOf.eq_2, i_rng1, i_rng2, i_rngD, rgOf.eq_1, rgOf.eq_2, i_rngV, i_num, i_zip2, i_zip, i_enum, g_n, g_nil.eq_1, g_nil.eq_2, g_cons.eq_1, g_cons.eq_2, g_tup.eq_1, g_tup.eq_2, wipeE.eq_1, wipeE.eq_2, f_lc, c_yes, s_nil, s_seq, s_brk, s_cnt, s_set, s_own, s_rng, s_unp, s_par, s_if, s_ret, s_ex, frzA.eq_1, frzA.eq_2, frzA.eq_3, frz, s_frz, ownOf.eq_1, ownOf.eq_2, s_app, s_insert, ixOf, o_rev.eq_1, o_rev.eq_2, nstOf.eq_1, nstOf.eq_2, b_nix, s_sub2, s_app2, lcN.eq_1, lcN.eq_2, s_nst, s_sub, popQ, s_pop, s_popS, tup2.eq_1, tup2.eq_2, sub1, s_swp, sub2, s_swp2, f_lrng, s_for, isScr.eq_1, isScr.eq_2, s_draw, s_raise, strQ.eq_1, strQ.eq_2, intQ.eq_1, intQ.eq_2, s_raiseR, only, exM.eq_1, exM.eq_2, exM.eq_3, s_tryM, exMR.eq_1, exMR.eq_2, exMR.eq_3, s_tryMR, F_angle, startL.eq_1, startL.eq_2, startL.eq_3, start, List.set_cons_zero, List.set_cons_succ, List.getElem?_cons_zero, List.getElem?_cons_succ, List.length_cons, List.length_nil, List.cons_append, List.nil_append, List.replicate, if_true, if_false, Bool.false_eq_true, Bool.true_and, Bool.false_and, Bool.and_true, Bool.and_false, Bool.not_true, Bool.not_false, Bool.or_true, Bool.or_false, Bool.true_or, Bool.false_or, true_and, and_true, ite_self, reduceCtorEq, forL, lcL, Int.zero_add, a1]
          by_cases h0 : 0 < j
          · have h0' : decide ((0 : Int) < (j : Int)) = true := by simp; omega
            simp only [LN, e_c, vOf.eq_1, vOf.eq_2, bOf.eq_1, bOf.eq_2, bOf.eq_3, e_v, b_v, e_f, e_op, e_un, o_add.eq_1, o_add.eq_2, o_add.eq_3, o_add.eq_4, o_add.eq_5, o_sub.eq_1, o_sub.eq_2, o_mul.eq_1, o_mul.eq_2, o_mul.eq_3, o_mul.eq_4, o_fdiv.eq_1, o_fdiv.eq_2, o_mod.eq_1, o_mod.eq_2, o_lt.eq_1, o_lt.eq_2, o_le.eq_1, o_le.eq_2, o_gt.eq_1, o_gt.eq_2, o_ge.eq_1, o_ge.eq_2, o_eq_int, o_ne_int, isNone.eq_1, isNone.eq_2, o_isN, o_notN, o_isB.eq_1, o_isB.eq_2, o_notB.eq_1, o_notB.eq_2, o_neg.eq_1, o_neg.eq_2, kOf.eq_1, kOf.eq_2, c_e, c_and, c_or, c_not, e_and, e_or, e_not, e_if, e_ch, a_nil, a_cons, isDraw.eq_1, isDraw.eq_2, a_draw, e_tup, listOf.eq_1, listOf.eq_2, f_op, f_lst, e_call, oOf.eq_1, oOf.eq_2, o_ix.eq_1, o_ix.eq_2, o_ix.eq_3, iOf.eq_1, iOf.eq_2, p_none, p_some, o_sl.eq_1, o_sl.eq_2, o_sl.eq_3, e_sl, o_len.eq_1, o_len.eq_2, o_len.eq_3, o_len.eq_4, o_abs.eq_1, o_abs.eq_2, o_int.eq_1, o_int.eq_2, o_int.eq_3, isTy.eq_1, isTy.eq_2, isTy.eq_3, isTy.eq_4, isTy.eq_5, isTy.eq_6, isTy.eq_7, o_isin, o_tuple.eq_1, o_tuple.eq_2, o_tuple.eq_3, seqQ.eq_1, seqQ.eq_2, seqQ.eq_3, f_list, someOf.eq_1, someOf.eq_2, o_sum, o_maxS, o_minS, o_all.eq_1, o_all.eq_2, o_any.eq_1, o_any.eq_2, o_max.eq_1, o_max.eq_2, o_min.eq_1, o_min.eq_2, o_min3.eq_1, o_min3.eq_2, e_op3, o_repr, i_seq, nOf.eq_1, nOf.eq_2, i_rng1, i_rng2, i_rngD, rgOf.eq_1, rgOf.eq_2, i_rngV, i_num, i_zip2, i_zip, i_enum, g_n, g_nil.eq_1, g_nil.eq_2, g_cons.eq_1, g_cons.eq_2, g_tup.eq_1, g_tup.eq_2, wipeE.eq_1, wipeE.eq_2, f_lc, c_yes, s_nil, s_seq, s_brk, s_cnt, s_set, s_own, s_rng, s_unp, s_par, s_if, s_ret, s_ex, frzA.eq_1, frzA.eq_2, frzA.eq_3, frz, s_frz, ownOf.eq_1, ownOf.eq_2, s_app, s_insert, ixOf, o_rev.eq_1, o_rev.eq_2, nstOf.eq_1, nstOf.eq_2, b_nix, s_sub2, s_app2, lcN.eq_1, lcN.eq_2, s_nst, s_sub, popQ, s_pop, s_popS, tup2.eq_1, tup2.eq_2, sub1, s_swp, sub2, s_swp2, f_lrng, s_for, isScr.eq_1, isScr.eq_2, s_draw, s_raise, strQ.eq_1, strQ.eq_2, intQ.eq_1, intQ.eq_2, s_raiseR, only, exM.eq_1, exM.eq_2, exM.eq_3, s_tryM, exMR.eq_1, exMR.eq_2, exMR.eq_3, s_tryMR, F_angle, startL.eq_1, startL.eq_2, startL.eq_3, start, List.set_cons_zero, List.set_cons_succ, List.getElem?_cons_zero, List.getElem?_cons_succ, List.length_cons, List.length_nil, List.cons_append, List.nil_append, List.replicate, if_true, if_false, Bool.false_eq_true, Bool.true_and, Bool.false_and, Bool.and_true, Bool.and_false, Bool.not_true, Bool.not_false, Bool.or_true, Bool.or_false, Bool.true_or, Bool.false_or, true_and, and_true, ite_self, reduceCtorEq, forL, lcL, h0', at_pred h0 (show j - 1 < row.length by omega)]
            refine p_law_ratio _ 8 (B := 4) (by decide) (by decide) (by decide) ?_
            unfold dif at hP
            rw [if_pos h0] at hP
            exact hP
          · have h0' : decide ((0 : Int) < (j : Int)) = false := by simp; omega
            simp only [LN, e_c, vOf.eq_1, vOf.eq_2, bOf.eq_1, bOf.eq_2, bOf.eq_3, e_v, b_v, e_f, e_op, e_un, o_add.eq_1, o_add.eq_2, o_add.eq_3, o_add.eq_4, o_add.eq_5, o_sub.eq_1, o_sub.eq_2, o_mul.eq_1, o_mul.eq_2, o_mul.eq_3, o_mul.eq_4, o_fdiv.eq_1, o_fdiv.eq_2, o_mod.eq_1, o_mod.eq_2, o_lt.eq_1, o_lt.eq_2, o_le.eq_1, o_le.eq_2, o_gt.eq_1, o_gt.eq_2, o_ge.eq_1, o_ge.eq_2, o_eq_int, o_ne_int, isNone.eq_1, isNone.eq_2, o_isN, o_notN, o_isB.eq_1, o_isB.eq_2, o_notB.eq_1, o_notB.eq_2, o_neg.eq_1, o_neg.eq_2, kOf.eq_1, kOf.eq_2, c_e, c_and, c_or, c_not, e_and, e_or, e_not, e_if, e_ch, a_nil, a_cons, isDraw.eq_1, isDraw.eq_2, a_draw, e_tup, listOf.eq_1, listOf.eq_2, f_op, f_lst, e_call, oOf.eq_1, oOf.eq_2, o_ix.eq_1, o_ix.eq_2, o_ix.eq_3, iOf.eq_1, iOf.eq_2, p_none, p_some, o_sl.eq_1, o_sl.eq_2, o_sl.eq_3, e_sl, o_len.eq_1, o_len.eq_2, o_len.eq_3, o_len.eq_4, o_abs.eq_1, o_abs.eq_2, o_int.eq_1, o_int.eq_2, o_int.eq_3, isTy.eq_1, isTy.eq_2, isTy.eq_3, isTy.eq_4, isTy.eq_5, isTy.eq_6, isTy.eq_7, o_isin, o_tuple.eq_1, o_tuple.eq_2, o_tuple.eq_3, seqQ.eq_1, seqQ.eq_2, seqQ.eq_3, f_list, someOf.eq_1, someOf.eq_2, o_sum, o_maxS, o_minS, o_all.eq_1, o_all.eq_2, o_any.eq_1, o_any.eq_2, o_max.eq_1, o_max.eq_2, o_min.eq_1, o_min.eq_2, o_min3.eq_1, o_min3.eq_2, e_op3, o_repr, i_seq, nOf.eq_1, nOf.eq_2, i_rng1, i_rng2, i_rngD, rgOf.eq_1, rgOf.eq_2, i_rngV, i_num, i_zip2, i_zip, i_enum, g_n, g_nil.eq_1, g_nil.eq_2, g_cons.eq_1, g_cons.eq_2, g_tup.eq_1, g_tup.eq_2, wipeE.eq_1, wipeE.eq_2, f_lc, c_yes, s_nil, s_seq, s_brk, s_cnt, s_set, s_own, s_rng, s_unp, s_par, s_if, s_ret, s_ex, frzA.eq_1, frzA.eq_2, frzA.eq_3, frz, s_frz, ownOf.eq_1, ownOf.eq_2, s_app, s_insert, ixOf, o_rev.eq_1, o_rev.eq_2, nstOf.eq_1, nstOf.eq_2, b_nix, s_sub2, s_app2, lcN.eq_1, lcN.eq_2, s_nst, s_sub, popQ, s_pop, s_popS, tup2.eq_1, tup2.eq_2, sub1, s_swp, sub2, s_swp2, f_lrng, s_for, isScr.eq_1, isScr.eq_2, s_draw, s_raise, strQ.eq_1, strQ.eq_2, intQ.eq_1, intQ.eq_2, s_raiseR, only, exM.eq_1, exM.eq_2, exM.eq_3, s_tryM, exMR.eq_1, exMR.eq_2, exMR.eq_3, s_tryMR, F_angle, startL.eq_1, startL.eq_2, startL.eq_3, start, List.set_cons_zero, List.set_cons_succ, List.getElem?_cons_zero, List.getElem?_cons_succ, List.length_cons, List.length_nil, List.cons_append, List.nil_append, List.replicate, if_true, if_false, Bool.false_eq_true, Bool.true_and, Bool.false_and, Bool.and_true, Bool.and_false, Bool.not_true, Bool.not_false, Bool.or_true, Bool.or_false, Bool.true_or, Bool.false_or, true_and, and_true, ite_self, reduceCtorEq, forL, lcL, h0']
            refine p_law_ratio _ 8 (B := 4) (by decide) (by decide) (by decide) ?_
            unfold dif at hP
            rw [if_neg h0] at hP
            exact hP
        · have e2 : ((List.range n).map fun k : Nat => PyData.int (0 + (k : Int))).map (zF fun z => rD (Rat.divInt (dif row z.toNat) 8)) = (((List.range n).map (dif row)).map fun k => Rat.divInt k 8).map rD := by
            rw [List.map_map, List.map_map, List.map_map]
            refine List.map_congr_left fun j _ => ?_
            simp [Function.comp, zF]
          rw [e2, List.nil_append]
          refine ⟨by simp; omega, hN _ ⟨row, m ++ [_], _, _, _, _, _, by rw [List.map_append]; rfl, .inr rfl, hrl, hrb, by simp [hm], fun r hr' => ?_⟩⟩
          rcases List.mem_append.mp hr' with hr' | hr'
          · exact hr r hr'
          · rw [List.mem_singleton.mp hr']
            exact ⟨s1, bd_of (by decide) (by decide)⟩

def unitR (n a : Nat) : List Rat := (List.range n).map fun j => if j = a then 1 else 0
theorem unitR_sum (a : Nat) : ∀ n : Nat, (unitR n a).sum = if a < n then 1 else 0
  | 0 => by simp [unitR]
  | n + 1 => by
    have ih := unitR_sum a n
    unfold unitR at ih ⊢
    rw [List.range_succ, List.map_append, List.sum_append, ih]
    simp only [List.map_cons, List.map_nil, List.sum_cons, List.sum_nil, Rat.add_zero]
    by_cases h1 : a < n
    · rw [if_pos h1, if_neg (by omega), if_pos (by omega), Rat.add_zero]
    · by_cases h2 : n = a
      · rw [if_neg h1, if_pos h2, if_pos (by omega), Rat.zero_add]
      · rw [if_neg h1, if_neg h2, if_neg (by omega), Rat.zero_add]
theorem unit_shares {n a : Nat} (h : a < n) : Shares n (unitR n a) ∧ bd 1 (unitR n a) := by
  refine ⟨⟨by simp [unitR], fun q hq => ?_, by rw [unitR_sum, if_pos h]⟩, 1, by decide, by decide, fun q hq => ?_⟩
  · obtain ⟨j, _, rfl⟩ := List.mem_map.mp hq
    split <;> decide
  · obtain ⟨j, _, rfl⟩ := List.mem_map.mp hq
    split <;> decide
theorem unit_data (n a : Nat) : ((upTo 0 n).map (zF fun z => .tuple [.int (if (z == (a : Int)) = true then 1 else 0), .int 1])) = (unitR n a).map rD := by
  rw [upTo_eq, unitR, List.map_map, List.map_map]
  refine List.map_congr_left fun j _ => ?_
  by_cases h : j = a
  · subst h
    simp [Function.comp, zF, rD]
  · have : ¬ ((j : Int) = a) := by omega
    simp [Function.comp, zF, rD, h, this]
def good (n : Nat) (r : List Rat) : Prop := Shares n r ∧ bd 31 r
theorem p_law_plus_raw {a b c d : Int} {Q : D → Prop} {x : EX} (ha : a.natAbs < 2 ^ 10) (hb : b.natAbs < 2 ^ 10) (hc : c.natAbs < 2 ^ 10) (hd : d.natAbs < 2 ^ 10) (b0 : b ≠ 0) (d0 : d ≠ 0) (h : Q (rD (Rat.divInt a b + Rat.divInt c d))) : c_law_plus [.tuple [.int a, .int b], .tuple [.int c, .int d]] Q x := by
  refine ⟨rfl, ?_⟩
  have m1 := mulOk_of ha hd (by omega)
  have m2 := mulOk_of hc hb (by omega)
  have m3 := mulOk_of hb hd (by omega)
  simp [T_law_plus, at_, m1, m2, m3]
  refine p_law_ratio (B := 20) _ _ (Int.mul_ne_zero b0 d0) (abs_mul_lt hb hd) (by decide) ?_
  rwa [Rat.divInt_add_divInt _ _ b0 d0] at h
/-- a pair with small numbers -/
def prOk (d : D) : Prop := ∃ a b : Int, d = .tuple [.int a, .int b] ∧ 0 ≤ a ∧ 0 < b ∧ b ≤ 2
theorem pr_good {n : Nat} {ds : List D} (hl : ds.length = n) (h : ∀ d ∈ ds, prOk d) (hs : (ds.map pv).sum = 1) : good n (ds.map pv) := by
  refine ⟨⟨by rw [List.length_map, hl], fun q hq => ?_, hs⟩, 2, by decide, by decide, fun q hq => ?_⟩
  · obtain ⟨d, hd, rfl⟩ := List.mem_map.mp hq
    obtain ⟨a, b, rfl, h0, h1, _⟩ := h d hd
    exact divInt_nonneg h0 h1
  · obtain ⟨d, hd, rfl⟩ := List.mem_map.mp hq
    obtain ⟨a, b, rfl, h0, h1, h2⟩ := h d hd
    have h3 := divInt_dvd a b (by omega)
    have hb : b = 1 ∨ b = 2 := by omega
    simp only [pv]
    rcases hb with rfl | rfl
    · exact Nat.dvd_trans h3 (by decide)
    · exact h3
theorem prs_row {ds : List D} {ρ : Env} {Q : List D → Prop} (v : Nat) (hv : v < ρ.length) (h : ∀ d ∈ ds, prOk d) (hQ : Q ((ds.map pv).map rD)) : lcL (g_n v) c_yes (e_call c_law_ratio (a_cons (e_op o_ix (b_v v) (e_c (.int 0))) (a_cons (e_op o_ix (b_v v) (e_c (.int 1))) a_nil))) ρ Q ds [] := by
  refine lc_fun (fun d => rD (pv d)) ds [] (fun d hd P hP => ?_) (by rw [List.map_map] at hQ; exact hQ)
  obtain ⟨a, b, rfl, h0, h1, h2⟩ := h d hd
  have e : (ρ.set v (.val (.tuple [.int a, .int b])))[v]? = some (.val (.tuple [.int a, .int b])) := by
    rw [List.getElem?_set_self hv]
  simp only [g_n, e_call, a_cons, a_nil, e_op, b_v, e, bOf, e_c, o_ix]
  have a1 : at_ [PyData.int a, .int b] 0 = some (.int a) := rfl
  have a2 : at_ [PyData.int a, .int b] 1 = some (.int b) := rfl
  simp only [a1, a2, oOf]
  exact p_law_ratio a b (B := 3) (by omega) (by omega) (by decide) hP
theorem p_law_moves {Q : D → Prop} {x : EX} (h : ∀ n m, Moves n m → (∀ r ∈ m, bd 31 r) → Q (mD m)) : c_law_moves [.none, .int 6] Q x := by
  refine ⟨rfl, ?_⟩
  simp only [T_law_moves]
  refine seq_mid (fun ρ => ∃ n : Nat, ρ = [.draw, .val (.int 6), .val (.int n), .emp, .emp, .emp, .emp, .emp, .emp, .emp, .emp, .emp] ∧ 2 ≤ n ∧ n ≤ 6) (fun N hN => ?_) ?_
  · simp only [LN, e_c, vOf.eq_1, vOf.eq_2, bOf.eq_1, bOf.eq_2, bOf.eq_3, e_v, b_v, e_f, e_op, e_un, o_add.eq_1, o_add.eq_2, o_add.eq_3, o_add.eq_4, o_add.eq_5, o_sub.eq_1, o_sub.eq_2, o_mul.eq_1, o_mul.eq_2, o_mul.eq_3, o_mul.eq_4, o_fdiv.eq_1, o_fdiv.eq_2, o_mod.eq_1, o_mod.eq_2, o_lt.eq_1, o_lt.eq_2, o_le.eq_1, o_le.eq_2, o_gt.eq_1, o_gt.eq_2, o_ge.eq_1, o_ge.eq_2, o_eq_int, o_ne_int, isNone.eq_1, isNone.eq_2, o_isN, o_notN, o_isB.eq_1, o_isB.eq_2, o_notB.eq_1, o_notB.eq_2, o_neg.eq_1, o_neg.eq_2, kOf.eq_1, kOf.eq_2, c_e, c_and, c_or, c_not, e_and, e_or, e_not, e_if, e_ch, a_nil, a_cons, isDraw.eq_1, isDraw.eq_2, a_draw, e_tup, listOf.eq_1, listOf.eq_2, f_op, f_lst, e_call, oOf.eq_1, oOf.eq_2, o_ix.eq_1, o_ix.eq_2, o_ix.eq_3, iOf.eq_1, iOf.eq_2, p_none, p_some, o_sl.eq_1, o_sl.eq_2, o_sl.eq_3, e_sl, o_len.eq_1, o_len.eq_2, o_len.eq_3, o_len.eq_4, o_abs.eq_1, o_abs.eq_2, o_int.eq_1, o_int.eq_2, o_int.eq_3, isTy.eq_1, isTy.eq_2, isTy.eq_3, isTy.eq_4, isTy.eq_5, isTy.eq_6, isTy.eq_7, o_isin, o_tuple.eq_1, o_tuple.eq_2, o_tuple.eq_3, seqQ.eq_1, seqQ.eq_2, seqQ.eq_3, f_list, someOf.eq_1, someOf.eq_2, o_sum, o_maxS, o_minS, o_all.eq_1, o_all.eq_2, o_any.eq_1, o_any.eq_2, o_max.eq_1, o_max.eq_2, o_min.eq_1, o_min.eq_2, o_min3.eq_1, o_min3.eq_2, e_op3, o_repr, i_seq, nOf.eq_1, nOf.eq_2, i_rng1, i_rng2, i_rngD, rgOf.eq_1, rgOf.eq_2, i_rngV, i_num, i_zip2, i_zip, i_enum, g_n, g_nil.eq_1, g_nil.eq_2, g_cons.eq_1, g_cons.eq_2, g_tup.eq_1, g_tup.eq_2, wipeE.eq_1, wipeE.eq_2, f_lc, c_yes, s_nil, s_seq, s_brk, s_cnt, s_set, s_own, s_rng, s_unp, s_par, s_if, s_ret, s_ex, frzA.eq_1, frzA.eq_2, frzA.eq_3, frz, s_frz, ownOf.eq_1, ownOf.eq_2, s_app, s_insert, ixOf, o_rev.eq_1, o_rev.eq_2, nstOf.eq_1, nstOf.eq_2, b_nix, s_sub2, s_app2, lcN.eq_1, lcN.eq_2, s_nst, s_sub, popQ, s_pop, s_popS, tup2.eq_1, tup2.eq_2, sub1, s_swp, sub2, s_swp2, f_lrng, s_for, isScr.eq_1, isScr.eq_2, s_draw, s_raise, strQ.eq_1, strQ.eq_2, intQ.eq_1, intQ.eq_2, s_raiseR, only, exM.eq_1, exM.eq_2, exM.eq_3, s_tryM, exMR.eq_1, exMR.eq_2, exMR.eq_3, s_tryMR, F_angle, startL.eq_1, startL.eq_2, startL.eq_3, start, List.set_cons_zero, List.set_cons_succ, List.getElem?_cons_zero, List.getElem?_cons_succ, List.length_cons, List.length_nil, List.cons_append, List.nil_append, List.replicate, if_true, if_false, Bool.false_eq_true, Bool.true_and, Bool.false_and, Bool.and_true, Bool.and_false, Bool.not_true, Bool.not_false, Bool.or_true, Bool.or_false, Bool.true_or, Bool.false_or, true_and, and_true, ite_self, reduceCtorEq, forL, lcL]
    refine p_take (by decide) (by decide) fun r r0 r1 => ?_
    simp only [LN, e_c, vOf.eq_1, vOf.eq_2, bOf.eq_1, bOf.eq_2, bOf.eq_3, e_v, b_v, e_f, e_op, e_un, o_add.eq_1, o_add.eq_2, o_add.eq_3, o_add.eq_4, o_add.eq_5, o_sub.eq_1, o_sub.eq_2, o_mul.eq_1, o_mul.eq_2, o_mul.eq_3, o_mul.eq_4, o_fdiv.eq_1, o_fdiv.eq_2, o_mod.eq_1, o_mod.eq_2, o_lt.eq_1, o_lt.eq_2, o_le.eq_1, o_le.eq_2, o_gt.eq_1, o_gt.eq_2, o_ge.eq_1, o_ge.eq_2, o_eq_int, o_ne_int, isNone.eq_1, isNone.eq_2, o_isN, o_notN, o_isB.eq_1, o_isB.eq_2, o_notB.eq_1, o_notB.eq_2, o_neg.eq_1, o_neg.eq_2, kOf.eq_1, kOf.eq_2, c_e, c_and, c_or, c_not, e_and, e_or, e_not, e_if, e_ch, a_nil, a_cons, isDraw.eq_1, isDraw.eq_2, a_draw, e_tup, listOf.eq_1, listOf.eq_2, f_op, f_lst, e_call, oOf.eq_1, oOf.eq_2, o_ix.eq_1, o_ix.eq_2, o_ix.eq_3, iOf.eq_1, iOf.eq_2, p_none, p_some, o_sl.eq_1, o_sl.eq_2, o_sl.eq_3, e_sl, o_len.eq_1, o_len.eq_2, o_len.eq_3, o_len.eq_4, o_abs.eq_1, o_abs.eq_2, o_int.eq_1, o_int.eq_2, o_int.eq_3, isTy.eq_1, isTy.eq_2, isTy.eq_3, isTy.eq_4, isTy.eq_5, isTy.eq_6, isTy.eq_7, o_isin, o_tuple.eq_1, o_tuple.eq_2, o_tuple.eq_3, seqQ.eq_1, seqQ.eq_2, seqQ.eq_3, f_list, someOf.eq_1, someOf.eq_2, o_sum, o_maxS, o_minS, o_all.eq_1, o_all.eq_2, o_any.eq_1, o_any.eq_2, o_max.eq_1, o_max.eq_2, o_min.eq_1, o_min.eq_2, o_min3.eq_1, o_min3.eq_2, e_op3, o_repr, i_seq, nOf.eq_1, nOf.eq_2, i_rng1, i_rng2, i_rngD, rgOf.eq_1, rgOf.eq_2, i_rngV, i_num, i_zip2, i_zip, i_enum, g_n, g_nil.eq_1, g_nil.eq_2, g_cons.eq_1, g_cons.eq_2, g_tup.eq_1, g_tup.eq_2, wipeE.eq_1, wipeE.eq_2, f_lc, c_yes, s_nil, s_seq, s_brk, s_cnt, s_set, s_own, s_rng, s_unp, s_par, s_if, s_ret, s_ex, frzA.eq_1, frzA.eq_2, frzA.eq_3, frz, s_frz, ownOf.eq_1, ownOf.eq_2, s_app, s_insert, ixOf, o_rev.eq_1, o_rev.eq_2, nstOf.eq_1, nstOf.eq_2, b_nix, s_sub2, s_app2, lcN.eq_1, lcN.eq_2, s_nst, s_sub, popQ, s_pop, s_popS, tup2.eq_1, tup2.eq_2, sub1, s_swp, sub2, s_swp2, f_lrng, s_for, isScr.eq_1, isScr.eq_2, s_draw, s_raise, strQ.eq_1, strQ.eq_2, intQ.eq_1, intQ.eq_2, s_raiseR, only, exM.eq_1, exM.eq_2, exM.eq_3, s_tryM, exMR.eq_1, exMR.eq_2, exMR.eq_3, s_tryMR, F_angle, startL.eq_1, startL.eq_2, startL.eq_3, start, List.set_cons_zero, List.set_cons_succ, List.getElem?_cons_zero, List.getElem?_cons_succ, List.length_cons, List.length_nil, List.cons_append, List.nil_append, List.replicate, if_true, if_false, Bool.false_eq_true, Bool.true_and, Bool.false_and, Bool.and_true, Bool.and_false, Bool.not_true, Bool.not_false, Bool.or_true, Bool.or_false, Bool.true_or, Bool.false_or, true_and, and_true, ite_self, reduceCtorEq, forL, lcL]
    exact hN _ ⟨(2 + r).toNat, by rw [show (((2 + r).toNat : Nat) : Int) = 2 + r by omega], by omega, by omega⟩
  rintro ρ ⟨n, rfl, h2, h6⟩
  refine seq_mid (fun ρ => ∃ kd : Int, ρ = [.draw, .val (.int 6), .val (.int n), .val (.int kd), .emp, .emp, .emp, .emp, .emp, .emp, .emp, .emp]) (fun N hN => ?_) ?_
  · simp only [LN, e_c, vOf.eq_1, vOf.eq_2, bOf.eq_1, bOf.eq_2, bOf.eq_3, e_v, b_v, e_f, e_op, e_un, o_add.eq_1, o_add.eq_2, o_add.eq_3, o_add.eq_4, o_add.eq_5, o_sub.eq_1, o_sub.eq_2, o_mul.eq_1, o_mul.eq_2, o_mul.eq_3, o_mul.eq_4, o_fdiv.eq_1, o_fdiv.eq_2, o_mod.eq_1, o_mod.eq_2, o_lt.eq_1, o_lt.eq_2, o_le.eq_1, o_le.eq_2, o_gt.eq_1, o_gt.eq_2, o_ge.eq_1, o_ge.eq_2, o_eq_int, o_ne_int, isNone.eq_1, isNone.eq_2, o_isN, o_notN, o_isB.eq_1, o_isB.eq_2, o_notB.eq_1, o_notB.eq_2, o_neg.eq_1, o_neg.eq_2, kOf.eq_1, kOf.eq_2, c_e, c_and, c_or, c_not, e_and, e_or, e_not, e_if, e_ch, a_nil, a_cons, isDraw.eq_1, isDraw.eq_2, a_draw, e_tup, listOf.eq_1, listOf.eq_2, f_op, f_lst, e_call, oOf.eq_1, oOf.eq_2, o_ix.eq_1, o_ix.eq_2, o_ix.eq_3, iOf.eq_1, iOf.eq_2, p_none, p_some, o_sl.eq_1, o_sl.eq_2, o_sl.eq_3, e_sl, o_len.eq_1, o_len.eq_2, o_len.eq_3, o_len.eq_4, o_abs.eq_1, o_abs.eq_2, o_int.eq_1, o_int.eq_2, o_int.eq_3, isTy.eq_1, isTy.eq_2, isTy.eq_3, isTy.eq_4, isTy.eq_5, isTy.eq_6, isTy.eq_7, o_isin, o_tuple.eq_1, o_tuple.eq_2, o_tuple.eq_3, seqQ.eq_1, seqQ.eq_2, seqQ.eq_3, f_list, someOf.eq_1, someOf.eq_2, o_sum, o_maxS, o_minS, o_all.eq_1, o_all.eq_2, o_any.eq_1, o_any.eq_2, o_max.eq_1, o_max.eq_2, o_min.eq_1, o_min.eq_2, o_min3.eq_1, o_min3.eq_2, e_op3, o_repr, i_seq, nOf.eq_1, nOf.eq_2, i_rng1, i_rng2, i_rngD, rgOf.eq_1, rgOf.eq_2, i_rngV, i_num, i_zip2, i_zip, i_enum, g_n, g_nil.eq_1, g_nil.eq_2, g_cons.eq_1, g_cons.eq_2, g_tup.eq_1, g_tup.eq_2, wipeE.eq_1, wipeE.eq_2, f_lc, c_yes, s_nil, s_seq, s_brk, s_cnt, s_set, s_own, s_rng, s_unp, s_par, s_if, s_ret, s_ex, frzA.eq_1, frzA.eq_2, frzA.eq_3, frz, s_frz, ownOf.eq_1, ownOf.eq_2, s_app, s_insert, ixOf, o_rev.eq_1, o_rev.eq_2, nstOf.eq_1, nstOf.eq_2, b_nix, s_sub2, s_app2, lcN.eq_1, lcN.eq_2, s_nst, s_sub, popQ, s_pop, s_popS, tup2.eq_1, tup2.eq_2, sub1, s_swp, sub2, s_swp2, f_lrng, s_for, isScr.eq_1, isScr.eq_2, s_draw, s_raise, strQ.eq_1, strQ.eq_2, intQ.eq_1, intQ.eq_2, s_raiseR, only, exM.eq_1, exM.eq_2, exM.eq_3, s_tryM, exMR.eq_1, exMR.eq_2, exMR.eq_3, s_tryMR, F_angle, startL.eq_1, startL.eq_2, startL.eq_3, start, List.set_cons_zero, List.set_cons_succ, List.getElem?_cons_zero, List.getElem?_cons_succ, List.length_cons, List.length_nil, List.cons_append, List.nil_append, List.replicate, if_true, if_false, Bool.false_eq_true, Bool.true_and, Bool.false_and, Bool.and_true, Bool.and_false, Bool.not_true, Bool.not_false, Bool.or_true, Bool.or_false, Bool.true_or, Bool.false_or, true_and, and_true, ite_self, reduceCtorEq, forL, lcL]
    exact p_take (by decide) (by decide) fun r r0 r1 => hN _ ⟨_, rfl⟩
  rintro ρ ⟨kd, rfl⟩
  refine seq_mid (fun ρ => ρ = [.draw, .val (.int 6), .val (.int n), .val (.int kd), .own [], .emp, .emp, .emp, .emp, .emp, .emp, .emp]) (fun N hN => ?_) ?_
  · simp only [LN, e_c, vOf.eq_1, vOf.eq_2, bOf.eq_1, bOf.eq_2, bOf.eq_3, e_v, b_v, e_f, e_op, e_un, o_add.eq_1, o_add.eq_2, o_add.eq_3, o_add.eq_4, o_add.eq_5, o_sub.eq_1, o_sub.eq_2, o_mul.eq_1, o_mul.eq_2, o_mul.eq_3, o_mul.eq_4, o_fdiv.eq_1, o_fdiv.eq_2, o_mod.eq_1, o_mod.eq_2, o_lt.eq_1, o_lt.eq_2, o_le.eq_1, o_le.eq_2, o_gt.eq_1, o_gt.eq_2, o_ge.eq_1, o_ge.eq_2, o_eq_int, o_ne_int, isNone.eq_1, isNone.eq_2, o_isN, o_notN, o_isB.eq_1, o_isB.eq_2, o_notB.eq_1, o_notB.eq_2, o_neg.eq_1, o_neg.eq_2, kOf.eq_1, kOf.eq_2, c_e, c_and, c_or, c_not, e_and, e_or, e_not, e_if, e_ch, a_nil, a_cons, isDraw.eq_1, isDraw.eq_2, a_draw, e_tup, listOf.eq_1, listOf.eq_2, f_op, f_lst, e_call, oOf.eq_1, oOf.eq_2, o_ix.eq_1, o_ix.eq_2, o_ix.eq_3, iOf.eq_1, iOf.eq_2, p_none, p_some, o_sl.eq_1, o_sl.eq_2, o_sl.eq_3, e_sl, o_len.eq_1, o_len.eq_2, o_len.eq_3, o_len.eq_4, o_abs.eq_1, o_abs.eq_2, o_int.eq_1, o_int.eq_2, o_int.eq_3, isTy.eq_1, isTy.eq_2, isTy.eq_3, isTy.eq_4, isTy.eq_5, isTy.eq_6, isTy.eq_7, o_isin, o_tuple.eq_1, o_tuple.eq_2, o_tuple.eq_3, seqQ.eq_1, seqQ.eq_2, seqQ.eq_3, f_list, someOf.eq_1, someOf.eq_2, o_sum, o_maxS, o_minS, o_all.eq_1, o_all.eq_2, o_any.eq_1, o_any.eq_2, o_max.eq_1, o_max.eq_2, o_min.eq_1, o_min.eq_2, o_min3.eq_1, o_min3.eq_2, e_op3, o_repr, i_seq, nOf.eq_1, nOf.eq_2, i_rng1, i_rng2, i_rngD, rgOf.eq_1, rgOf.eq_2, i_rngV, i_num, i_zip2, i_zip, i_enum, g_n, g_nil.eq_1, g_nil.eq_2, g_cons.eq_1, g_cons.eq_2, g_tup.eq_1, g_tup.eq_2, wipeE.eq_1, wipeE.eq_2, f_lc, c_yes, s_nil, s_seq, s_brk, s_cnt, s_set, s_own, s_rng, s_unp, s_par, s_if, s_ret, s_ex, frzA.eq_1, frzA.eq_2, frzA.eq_3, frz, s_frz, ownOf.eq_1, ownOf.eq_2, s_app, s_insert, ixOf, o_rev.eq_1, o_rev.eq_2, nstOf.eq_1, nstOf.eq_2, b_nix, s_sub2, s_app2, lcN.eq_1, lcN.eq_2, s_nst, s_sub, popQ, s_pop, s_popS, tup2.eq_1, tup2.eq_2, sub1, s_swp, sub2, s_swp2, f_lrng, s_for, isScr.eq_1, isScr.eq_2, s_draw, s_raise, strQ.eq_1, strQ.eq_2, intQ.eq_1, intQ.eq_2, s_raiseR, only, exM.eq_1, exM.eq_2, exM.eq_3, s_tryM, exMR.eq_1, exMR.eq_2, exMR.eq_3, s_tryMR, F_angle, startL.eq_1, startL.eq_2, startL.eq_3, start, List.set_cons_zero, List.set_cons_succ, List.getElem?_cons_zero, List.getElem?_cons_succ, List.length_cons, List.length_nil, List.cons_append, List.nil_append, List.replicate, if_true, if_false, Bool.false_eq_true, Bool.true_and, Bool.false_and, Bool.and_true, Bool.and_false, Bool.not_true, Bool.not_false, Bool.or_true, Bool.or_false, Bool.true_or, Bool.false_or, true_and, and_true, ite_self, reduceCtorEq, forL, lcL]
    exact ⟨by decide, hN _ rfl⟩
  rintro ρ rfl
  refine seq_mid (fun ρ => ∃ (m : List (List Rat)) (y5 y6 y7 y8 y9 y10 y11 : Sl), ρ = [.draw, .val (.int 6), .val (.int n), .val (.int kd), .own (m.map lR), y5, y6, y7, y8, y9, y10, y11] ∧ m.length = n ∧ ∀ r ∈ m, good n r) (fun N hN => ?_) ?_
  · simp only [s_for, i_rng1, b_v, nOf, bOf, List.getElem?_cons_succ, List.getElem?_cons_zero]
    refine ⟨by unfold rOk; omega, ?_⟩
    rw [Int.toNat_natCast]
    refine for_up (fun k ρ => ∃ (m : List (List Rat)) (y5 y6 y7 y8 y9 y10 y11 : Sl), ρ = [.draw, .val (.int 6), .val (.int n), .val (.int kd), .own (m.map lR), y5, y6, y7, y8, y9, y10, y11] ∧ m.length = k ∧ ∀ r ∈ m, good n r) n 0 ?step ⟨[], _, _, _, _, _, _, _, rfl, rfl, fun _ h => by cases h⟩ hN
    rintro i ρ N1 hi ⟨m, y5, y6, y7, y8, y9, y10, y11, rfl, hm, hr⟩ hN1
    simp only [g_n, List.set_cons_succ, List.set_cons_zero, Int.zero_add]
    let P : Env → Prop := fun ρ => ∃ (r : List Rat) (y7 y8 y9 y10 y11 : Sl), ρ = [.draw, .val (.int 6), .val (.int n), .val (.int kd), .own (m.map lR), .val (.int i), .own (r.map rD), y7, y8, y9, y10, y11] ∧ good n r
    refine seq_mid P (fun N hN => ?_) ?_
    · simp only [LN, e_c, vOf.eq_1, vOf.eq_2, bOf.eq_1, bOf.eq_2, bOf.eq_3, e_v, b_v, e_f, e_op, e_un, o_add.eq_1, o_add.eq_2, o_add.eq_3, o_add.eq_4, o_add.eq_5, o_sub.eq_1, o_sub.eq_2, o_mul.eq_1, o_mul.eq_2, o_mul.eq_3, o_mul.eq_4, o_fdiv.eq_1, o_fdiv.eq_2, o_mod.eq_1, o_mod.eq_2, o_lt.eq_1, o_lt.eq_2, o_le.eq_1, o_le.eq_2, o_gt.eq_1, o_gt.eq_2, o_ge.eq_1, o_ge.eq_2, o_eq_int, o_ne_int, isNone.eq_1, isNone.eq_2, o_isN, o_notN, o_isB.eq_1, o_isB.eq_2, o_notB.eq_1, o_notB.eq_2, o_neg.eq_1, o_neg.eq_2, kOf.eq_1, kOf.eq_2, c_e, c_and, c_or, c_not, e_and, e_or, e_not, e_if, e_ch, a_nil, a_cons, isDraw.eq_1, isDraw.eq_2, a_draw, e_tup, listOf.eq_1, listOf.eq_2, f_op, f_lst, e_call, oOf.eq_1, oOf.eq_2, o_ix.eq_1, o_ix.eq_2, o_ix.eq_3, iOf.eq_1, iOf.eq_2, p_none, p_some, o_sl.eq_1, o_sl.eq_2, o_sl.eq_3, e_sl, o_len.eq_1, o_len.eq_2, o_len.eq_3, o_len.eq_4, o_abs.eq_1, o_abs.eq_2, o_int.eq_1, o_int.eq_2, o_int.eq_3, isTy.eq_1, isTy.eq_2, isTy.eq_3, isTy.eq_4, isTy.eq_5, isTy.eq_6, isTy.eq_7, o_isin, o_tuple.eq_1, o_tuple.eq_2, o_tuple.eq_3, seqQ.eq_1, seqQ.eq_2, seqQ.eq_3, f_list, someOf.eq_1, someOf.eq_2, o_sum, o_maxS, o_minS, o_all.eq_1, o_all.eq_2, o_any.eq_1, o_any.eq_2, o_max.eq_1, o_max.eq_2, o_min.eq_1, o_min.eq_2, o_min3.eq_1, o_min3.eq_2, e_op3, o_repr, i_seq, nOf.eq_1, nOf.eq_2, i_rng1, i_rng2, i_rngD, rgOf.eq_1, rgOf.eq_2, i_rngV, i_num, i_zip2, i_zip, i_enum, g_n, g_nil.eq_1, g_nil.eq_2, g_cons.eq_1, g_cons.eq_2, g_tup.eq_1, g_tup.eq_2, wipeE.eq_1, wipeE.eq_2, f_lc, c_yes, s_nil, s_seq, s_brk, s_cnt, s_set, s_own, s_rng, s_unp, s_par, s_if, s_ret, s_ex, frzA.eq_1, frzA.eq_2, frzA.eq_3, frz, s_frz, ownOf.eq_1, ownOf.eq_2, s_app, s_insert, ixOf, o_rev.eq_1, o_rev.eq_2, nstOf.eq_1, nstOf.eq_2, b_nix, s_sub2, s_app2, lcN.eq_1, lcN.eq_2, s_nst, s_sub, popQ, s_pop, s_popS, tup2.eq_1, tup2.eq_2, sub1, s_swp, sub2, s_swp2, f_lrng, s_for, isScr.eq_1, isScr.eq_2, s_draw, s_raise, strQ.eq_1, strQ.eq_2, intQ.eq_1, intQ.eq_2, s_raiseR, only, exM.eq_1, exM.eq_2, exM.eq_3, s_tryM, exMR.eq_1, exMR.eq_2, exMR.eq_3, s_tryMR, F_angle, startL.eq_1, startL.eq_2, startL.eq_3, start, List.set_cons_zero, List.set_cons_succ, List.getElem?_cons_zero, List.getElem?_cons_succ, List.length_cons, List.length_nil, List.cons_append, List.nil_append, List.replicate, if_true, if_false, Bool.false_eq_true, Bool.true_and, Bool.false_and, Bool.and_true, Bool.and_false, Bool.not_true, Bool.not_false, Bool.or_true, Bool.or_false, Bool.true_or, Bool.false_or, true_and, and_true, ite_self, reduceCtorEq, forL, lcL]
      exact p_law_shares (by omega) h6 fun qs s1 s2 => by
        simp only [LN, e_c, vOf.eq_1, vOf.eq_2, bOf.eq_1, bOf.eq_2, bOf.eq_3, e_v, b_v, e_f, e_op, e_un, o_add.eq_1, o_add.eq_2, o_add.eq_3, o_add.eq_4, o_add.eq_5, o_sub.eq_1, o_sub.eq_2, o_mul.eq_1, o_mul.eq_2, o_mul.eq_3, o_mul.eq_4, o_fdiv.eq_1, o_fdiv.eq_2, o_mod.eq_1, o_mod.eq_2, o_lt.eq_1, o_lt.eq_2, o_le.eq_1, o_le.eq_2, o_gt.eq_1, o_gt.eq_2, o_ge.eq_1, o_ge.eq_2, o_eq_int, o_ne_int, isNone.eq_1, isNone.eq_2, o_isN, o_notN, o_isB.eq_1, o_isB.eq_2, o_notB.eq_1, o_notB.eq_2, o_neg.eq_1, o_neg.eq_2, kOf.eq_1, kOf.eq_2, c_e, c_and, c_or, c_not, e_and, e_or, e_not, e_if, e_ch, a_nil, a_cons, isDraw.eq_1, isDraw.eq_2, a_draw, e_tup, listOf.eq_1, listOf.eq_2, f_op, f_lst, e_call, oOf.eq_1, oOf.eq_2, o_ix.eq_1, o_ix.eq_2, o_ix.eq_3, iOf.eq_1, iOf.eq_2, p_none, p_some, o_sl.eq_1, o_sl.eq_2, o_sl.eq_3, e_sl, o_len.eq_1, o_len.eq_2, o_len.eq_3, o_len.eq_4, o_abs.eq_1, o_abs.eq_2, o_int.eq_1, o_int.eq_2, o_int.eq_3, isTy.eq_1, isTy.eq_2, isTy.eq_3, isTy.eq_4, isTy.eq_5, isTy.eq_6, isTy.eq_7, o_isin, o_tuple.eq_1, o_tuple.eq_2, o_tuple.eq_3, seqQ.eq_1, seqQ.eq_2, seqQ.eq_3, f_list, someOf.eq_1, someOf.eq_2, o_sum, o_maxS, o_minS, o_all.eq_1, o_all.eq_2, o_any.eq_1, o_any.eq_2, o_max.eq_1, o_max.eq_2, o_min.eq_1, o_min.eq_2, o_min3.eq_1, o_min3.eq_2, e_op3, o_repr, i_seq, nOf.eq_1, nOf.eq_2, i_rng1, i_rng2, i_rngD, rgOf.eq_1, rgOf.eq_2, i_rngV, i_num, i_zip2, i_zip, i_enum, g_n, g_nil.eq_1, g_nil.eq_2, g_cons.eq_1, g_cons.eq_2, g_tup.eq_1, g_tup.eq_2, wipeE.eq_1, wipeE.eq_2, f_lc, c_yes, s_nil, s_seq, s_brk, s_cnt, s_set, s_own, s_rng, s_unp, s_par, s_if, s_ret, s_ex, frzA.eq_1, frzA.eq_2, frzA.eq_3, frz, s_frz, ownOf.eq_1, ownOf.eq_2, s_app, s_insert, ixOf, o_rev.eq_1, o_rev.eq_2, nstOf.eq_1, nstOf.eq_2, b_nix, s_sub2, s_app2, lcN.eq_1, lcN.eq_2, s_nst, s_sub, popQ, s_pop, s_popS, tup2.eq_1, tup2.eq_2, sub1, s_swp, sub2, s_swp2, f_lrng, s_for, isScr.eq_1, isScr.eq_2, s_draw, s_raise, strQ.eq_1, strQ.eq_2, intQ.eq_1, intQ.eq_2, s_raiseR, only, exM.eq_1, exM.eq_2, exM.eq_3, s_tryM, exMR.eq_1, exMR.eq_2, exMR.eq_3, s_tryMR, F_angle, startL.eq_1, startL.eq_2, startL.eq_3, start, List.set_cons_zero, List.set_cons_succ, List.getElem?_cons_zero, List.getElem?_cons_succ, List.length_cons, List.length_nil, List.cons_append, List.nil_append, List.replicate, if_true, if_false, Bool.false_eq_true, Bool.true_and, Bool.false_and, Bool.and_true, Bool.and_false, Bool.not_true, Bool.not_false, Bool.or_true, Bool.or_false, Bool.true_or, Bool.false_or, true_and, and_true, ite_self, reduceCtorEq, forL, lcL, tR]
        exact hN _ ⟨qs, _, _, _, _, _, rfl, s1, s2⟩
    rintro ρ ⟨r, y7, y8, y9, y10, y11, rfl, hg⟩
    refine seq_mid P (fun N hN => ?_) ?_
    · refine if_any (fun Q hQ => ?_) ?_ ?_
      · simp only [LN, e_c, vOf.eq_1, vOf.eq_2, bOf.eq_1, bOf.eq_2, bOf.eq_3, e_v, b_v, e_f, e_op, e_un, o_add.eq_1, o_add.eq_2, o_add.eq_3, o_add.eq_4, o_add.eq_5, o_sub.eq_1, o_sub.eq_2, o_mul.eq_1, o_mul.eq_2, o_mul.eq_3, o_mul.eq_4, o_fdiv.eq_1, o_fdiv.eq_2, o_mod.eq_1, o_mod.eq_2, o_lt.eq_1, o_lt.eq_2, o_le.eq_1, o_le.eq_2, o_gt.eq_1, o_gt.eq_2, o_ge.eq_1, o_ge.eq_2, o_eq_int, o_ne_int, isNone.eq_1, isNone.eq_2, o_isN, o_notN, o_isB.eq_1, o_isB.eq_2, o_notB.eq_1, o_notB.eq_2, o_neg.eq_1, o_neg.eq_2, kOf.eq_1, kOf.eq_2, c_e, c_and, c_or, c_not, e_and, e_or, e_not, e_if, e_ch, a_nil, a_cons, isDraw.eq_1, isDraw.eq_2, a_draw, e_tup, listOf.eq_1, listOf.eq_2, f_op, f_lst, e_call, oOf.eq_1, oOf.eq_2, o_ix.eq_1, o_ix.eq_2, o_ix.eq_3, iOf.eq_1, iOf.eq_2, p_none, p_some, o_sl.eq_1, o_sl.eq_2, o_sl.eq_3, e_sl, o_len.eq_1, o_len.eq_2, o_len.eq_3, o_len.eq_4, o_abs.eq_1, o_abs.eq_2, o_int.eq_1, o_int.eq_2, o_int.eq_3, isTy.eq_1, isTy.eq_2, isTy.eq_3, isTy.eq_4, isTy.eq_5, isTy.eq_6, isTy.eq_7, o_isin, o_tuple.eq_1, o_tuple.eq_2, o_tuple.eq_3, seqQ.eq_1, seqQ.eq_2, seqQ.eq_3, f_list, someOf.eq_1, someOf.eq_2, o_sum, o_maxS, o_minS, o_all.eq_1, o_all.eq_2, o_any.eq_1, o_any.eq_2, o_max.eq_1, o_max.eq_2, o_min.eq_1, o_min.eq_2, o_min3.eq_1, o_min3.eq_2, e_op3, o_repr, i_seq, nOf.eq_1, nOf.eq_2, i_rng1, i_rng2, i_rngD, rgOf.eq_1, rgOf.eq_2, i_rngV, i_num, i_zip2, i_zip, i_enum, g_n, g_nil.eq_1, g_nil.eq_2, g_cons.eq_1, g_cons.eq_2, g_tup.eq_1, g_tup.eq_2, wipeE.eq_1, wipeE.eq_2, f_lc, c_yes, s_nil, s_seq, s_brk, s_cnt, s_set, s_own, s_rng, s_unp, s_par, s_if, s_ret, s_ex, frzA.eq_1, frzA.eq_2, frzA.eq_3, frz, s_frz, ownOf.eq_1, ownOf.eq_2, s_app, s_insert, ixOf, o_rev.eq_1, o_rev.eq_2, nstOf.eq_1, nstOf.eq_2, b_nix, s_sub2, s_app2, lcN.eq_1, lcN.eq_2, s_nst, s_sub, popQ, s_pop, s_popS, tup2.eq_1, tup2.eq_2, sub1, s_swp, sub2, s_swp2, f_lrng, s_for, isScr.eq_1, isScr.eq_2, s_draw, s_raise, strQ.eq_1, strQ.eq_2, intQ.eq_1, intQ.eq_2, s_raiseR, only, exM.eq_1, exM.eq_2, exM.eq_3, s_tryM, exMR.eq_1, exMR.eq_2, exMR.eq_3, s_tryMR, F_angle, startL.eq_1, startL.eq_2, startL.eq_3, start, List.set_cons_zero, List.set_cons_succ, List.getElem?_cons_zero, List.getElem?_cons_succ, List.length_cons, List.length_nil, List.cons_append, List.nil_append, List.replicate, if_true, if_false, Bool.false_eq_true, Bool.true_and, Bool.false_and, Bool.and_true, Bool.and_false, Bool.not_true, Bool.not_false, Bool.or_true, Bool.or_false, Bool.true_or, Bool.false_or, true_and, and_true, ite_self, reduceCtorEq, forL, lcL]
        split
        · exact hQ _
        · split
          · exact p_take (by decide) (by decide) fun r r0 r1 => by simp only [LN, e_c, vOf.eq_1, vOf.eq_2, bOf.eq_1, bOf.eq_2, bOf.eq_3, e_v, b_v, e_f, e_op, e_un, o_add.eq_1, o_add.eq_2, o_add.eq_3, o_add.eq_4, o_add.eq_5, o_sub.eq_1, o_sub.eq_2, o_mul.eq_1, o_mul.eq_2, o_mul.eq_3, o_mul.eq_4, o_fdiv.eq_1, o_fdiv.eq_2, o_mod.eq_1, o_mod.eq_2, o_lt.eq_1, o_lt.eq_2, o_le.eq_1, o_le.eq_2, o_gt.eq_1, o_gt.eq_2, o_ge.eq_1, o_ge.eq_2, o_eq_int, o_ne_int, isNone.eq_1, isNone.eq_2, o_isN, o_notN, o_isB.eq_1, o_isB.eq_2, o_notB.eq_1, o_notB.eq_2, o_neg.eq_1, o_neg.eq_2, kOf.eq_1, kOf.eq_2, c_e, c_and, c_or, c_not, e_and, e_or, e_not, e_if, e_ch, a_nil, a_cons, isDraw.eq_1, isDraw.eq_2, a_draw, e_tup, listOf.eq_1, listOf.eq_2, f_op, f_lst, e_call, oOf.eq_1, oOf.eq_2, o_ix.eq_1, o_ix.eq_2, o_ix.eq_3, iOf.eq_1, iOf.eq_2, p_none, p_some, o_sl.eq_1, o_sl.eq_2, o_sl.eq_3, e_sl, o_len.eq_1, o_len.eq_2, o_len.eq_3, o_len.eq_4, o_abs.eq_1, o_abs.eq_2, o_int.eq_1, o_int.eq_2, o_int.eq_3, isTy.eq_1, isTy.eq_2, isTy.eq_3, isTy.eq_4, isTy.eq_5, isTy.eq_6, isTy.eq_7, o_isin, o_tuple.eq_1, o_tuple.eq_2, o_tuple.eq_3, seqQ.eq_1, seqQ.eq_2, seqQ.eq_3, f_list, someOf.eq_1, someOf.eq_2, o_sum, o_maxS, o_minS, o_all.eq_1, o_all.eq_2, o_any.eq_1, o_any.eq_2, o_max.eq_1, o_max.eq_2, o_min.eq_1, o_min.eq_2, o_min3.eq_1, o_min3.eq_2, e_op3, o_repr, i_seq, nOf.eq_1, nOf.eq_2, i_rng1, i_rng2, i_rngD, rgOf.eq_1, rgOf.eq_2, i_rngV, i_num, i_zip2, i_zip, i_enum, g_n, g_nil.eq_1, g_nil.eq_2, g_cons.eq_1, g_cons.eq_2, g_tup.eq_1, g_tup.eq_2, wipeE.eq_1, wipeE.eq_2, f_lc, c_yes, s_nil, s_seq, s_brk, s_cnt, s_set, s_own, s_rng, s_unp, s_par, s_if, s_ret, s_ex, frzA.eq_1, frzA.eq_2, frzA.eq_3, frz, s_frz, ownOf.eq_1, ownOf.eq_2, s_app, s_insert, ixOf, o_rev.eq_1, o_rev.eq_2, nstOf.eq_1, nstOf.eq_2, b_nix, s_sub2, s_app2, lcN.eq_1, lcN.eq_2, s_nst, s_sub, popQ, s_pop, s_popS, tup2.eq_1, tup2.eq_2, sub1, s_swp, sub2, s_swp2, f_lrng, s_for, isScr.eq_1, isScr.eq_2, s_draw, s_raise, strQ.eq_1, strQ.eq_2, intQ.eq_1, intQ.eq_2, s_raiseR, only, exM.eq_1, exM.eq_2, exM.eq_3, s_tryM, exMR.eq_1, exMR.eq_2, exMR.eq_3, s_tryMR, F_angle, startL.eq_1, startL.eq_2, startL.eq_3, start, List.set_cons_zero, List.set_cons_succ, List.getElem?_cons_zero, List.getElem?_cons_succ, List.length_cons, List.length_nil, List.cons_append, List.nil_append, List.replicate, if_true, if_false, Bool.false_eq_true, Bool.true_and, Bool.false_and, Bool.and_true, Bool.and_false, Bool.not_true, Bool.not_false, Bool.or_true, Bool.or_false, Bool.true_or, Bool.false_or, true_and, and_true, ite_self, reduceCtorEq, forL, lcL]; exact hQ _
          · exact hQ _
      · simp only [LN, e_c, vOf.eq_1, vOf.eq_2, bOf.eq_1, bOf.eq_2, bOf.eq_3, e_v, b_v, e_f, e_op, e_un, o_add.eq_1, o_add.eq_2, o_add.eq_3, o_add.eq_4, o_add.eq_5, o_sub.eq_1, o_sub.eq_2, o_mul.eq_1, o_mul.eq_2, o_mul.eq_3, o_mul.eq_4, o_fdiv.eq_1, o_fdiv.eq_2, o_mod.eq_1, o_mod.eq_2, o_lt.eq_1, o_lt.eq_2, o_le.eq_1, o_le.eq_2, o_gt.eq_1, o_gt.eq_2, o_ge.eq_1, o_ge.eq_2, o_eq_int, o_ne_int, isNone.eq_1, isNone.eq_2, o_isN, o_notN, o_isB.eq_1, o_isB.eq_2, o_notB.eq_1, o_notB.eq_2, o_neg.eq_1, o_neg.eq_2, kOf.eq_1, kOf.eq_2, c_e, c_and, c_or, c_not, e_and, e_or, e_not, e_if, e_ch, a_nil, a_cons, isDraw.eq_1, isDraw.eq_2, a_draw, e_tup, listOf.eq_1, listOf.eq_2, f_op, f_lst, e_call, oOf.eq_1, oOf.eq_2, o_ix.eq_1, o_ix.eq_2, o_ix.eq_3, iOf.eq_1, iOf.eq_2, p_none, p_some, o_sl.eq_1, o_sl.eq_2, o_sl.eq_3, e_sl, o_len.eq_1, o_len.eq_2, o_len.eq_3, o_len.eq_4, o_abs.eq_1, o_abs.eq_2, o_int.eq_1, o_int.eq_2, o_int.eq_3, isTy.eq_1, isTy.eq_2, isTy.eq_3, isTy.eq_4, isTy.eq_5, isTy.eq_6, isTy.eq_7, o_isin, o_tuple.eq_1, o_tuple.eq_2, o_tuple.eq_3, seqQ.eq_1, seqQ.eq_2, seqQ.eq_3, f_list, someOf.eq_1, someOf.eq_2, o_sum, o_maxS, o_minS, o_all.eq_1, o_all.eq_2, o_any.eq_1, o_any.eq_2, o_max.eq_1, o_max.eq_2, o_min.eq_1, o_min.eq_2, o_min3.eq_1, o_min3.eq_2, e_op3, o_repr, i_seq, nOf.eq_1, nOf.eq_2, i_rng1, i_rng2, i_rngD, rgOf.eq_1, rgOf.eq_2, i_rngV, i_num, i_zip2, i_zip, i_enum, g_n, g_nil.eq_1, g_nil.eq_2, g_cons.eq_1, g_cons.eq_2, g_tup.eq_1, g_tup.eq_2, wipeE.eq_1, wipeE.eq_2, f_lc, c_yes, s_nil, s_seq, s_brk, s_cnt, s_set, s_own, s_rng, s_unp, s_par, s_if, s_ret, s_ex, frzA.eq_1, frzA.eq_2, frzA.eq_3, frz, s_frz, ownOf.eq_1, ownOf.eq_2, s_app, s_insert, ixOf, o_rev.eq_1, o_rev.eq_2, nstOf.eq_1, nstOf.eq_2, b_nix, s_sub2, s_app2, lcN.eq_1, lcN.eq_2, s_nst, s_sub, popQ, s_pop, s_popS, tup2.eq_1, tup2.eq_2, sub1, s_swp, sub2, s_swp2, f_lrng, s_for, isScr.eq_1, isScr.eq_2, s_draw, s_raise, strQ.eq_1, strQ.eq_2, intQ.eq_1, intQ.eq_2, s_raiseR, only, exM.eq_1, exM.eq_2, exM.eq_3, s_tryM, exMR.eq_1, exMR.eq_2, exMR.eq_3, s_tryMR, F_angle, startL.eq_1, startL.eq_2, startL.eq_3, start, List.set_cons_zero, List.set_cons_succ, List.getElem?_cons_zero, List.getElem?_cons_succ, List.length_cons, List.length_nil, List.cons_append, List.nil_append, List.replicate, if_true, if_false, Bool.false_eq_true, Bool.true_and, Bool.false_and, Bool.and_true, Bool.and_false, Bool.not_true, Bool.not_false, Bool.or_true, Bool.or_false, Bool.true_or, Bool.false_or, true_and, and_true, ite_self, reduceCtorEq, forL, lcL]
        refine p_take (by omega) (by omega) fun a a0 a1 => ?_
        obtain ⟨a, rfl⟩ : ∃ k : Nat, a = k := ⟨a.toNat, by omega⟩
        refine ⟨by unfold rOk; omega, ?_⟩
        rw [Int.toNat_natCast]
        refine ⟨by rw [upTo_eq]; simp; omega, ?_⟩
        refine lc_fun (zF fun z => .tuple [.int (if (z == (a : Int)) = true then 1 else 0), .int 1]) _ [] (fun d hd P hP => ?_) ?_
        · rw [upTo_eq] at hd
          obtain ⟨j, hj, rfl⟩ := List.mem_map.mp hd
          simp only [LN, e_c, vOf.eq_1, vOf.eq_2, bOf.eq_1, bOf.eq_2, bOf.eq_3, e_v, b_v, e_f, e_op, e_un, o_add.eq_1, o_add.eq_2, o_add.eq_3, o_add.eq_4, o_add.eq_5, o_sub.eq_1, o_sub.eq_2, o_mul.eq_1, o_mul.eq_2, o_mul.eq_3, o_mul.eq_4, o_fdiv.eq_1, o_fdiv.eq_2, o_mod.eq_1, o_mod.eq_2, o_lt.eq_1, o_lt.eq_2, o_le.eq_1, o_le.eq_2, o_gt.eq_1, o_gt.eq_2, o_ge.eq_1, o_ge.eq_2, o_eq_int, o_ne_int, isNone.eq_1, isNone.eq_2, o_isN, o_notN, o_isB.eq_1, o_isB.eq_2, o_notB.eq_1, o_notB.eq_2, o_neg.eq_1, o_neg.eq_2, kOf.eq_1, kOf.eq_2, c_e, c_and, c_or, c_not, e_and, e_or, e_not, e_if, e_ch, a_nil, a_cons, isDraw.eq_1, isDraw.eq_2, a_draw, e_tup, listOf.eq_1, listOf.eq_2, f_op, f_lst, e_call, oOf.eq_1, oOf.eq_2, o_ix.eq_1, o_ix.eq_2, o_ix.eq_3, iOf.eq_1, iOf.eq_2, p_none, p_some, o_sl.eq_1, o_sl.eq_2, o_sl.eq_3, e_sl, o_len.eq_1, o_len.eq_2, o_len.eq_3, o_len.eq_4, o_abs.eq_1, o_abs.eq_2, o_int.eq_1, o_int.eq_2, o_int.eq_3, isTy.eq_1, isTy.eq_2, isTy.eq_3, isTy.eq_4, isTy.eq_5, isTy.eq_6, isTy.eq_7, o_isin, o_tuple.eq_1, o_tuple.eq_2, o_tuple.eq_3, seqQ.eq_1, seqQ.eq_2, seqQ.eq_3, f_list, someOf.eq_1, someOf.eq_2, o_sum, o_maxS, o_minS, o_all.eq_1, o_all.eq_2, o_any.eq_1, o_any.eq_2, o_max.eq_1, o_max.eq_2, o_min.eq_1, o_min.eq_2, o_min3.eq_1, o_min3.eq_2, e_op3, o_repr, i_seq, nOf.eq_1, nOf.eq_2, i_rng1, i_rng2, i_rngD, rgOf.eq_1, rgOf.eq_2, i_rngV, i_num, i_zip2, i_zip, i_enum, g_n, g_nil.eq_1, g_nil.eq_2, g_cons.eq_1, g_cons.eq_2, g_tup.eq_1, g_tup.eq_2, wipeE.eq_1, wipeE.eq_2, f_lc, c_yes, s_nil, s_seq, s_brk, s_cnt, s_set, s_own, s_rng, s_unp, s_par, s_if, s_ret, s_ex, frzA.eq_1, frzA.eq_2, frzA.eq_3, frz, s_frz, ownOf.eq_1, ownOf.eq_2, s_app, s_insert, ixOf, o_rev.eq_1, o_rev.eq_2, nstOf.eq_1, nstOf.eq_2, b_nix, s_sub2, s_app2, lcN.eq_1, lcN.eq_2, s_nst, s_sub, popQ, s_pop, s_popS, tup2.eq_1, tup2.eq_2, sub1, s_swp, sub2, s_swp2, f_lrng, s_for, isScr.eq_1, isScr.eq_2, s_draw, s_raise, strQ.eq_1, strQ.eq_2, intQ.eq_1, intQ.eq_2, s_raiseR, only, exM.eq_1, exM.eq_2, exM.eq_3, s_tryM, exMR.eq_1, exMR.eq_2, exMR.eq_3, s_tryMR, F_angle, startL.eq_1, startL.eq_2, startL.eq_3, start, List.set_cons_zero, List.set_cons_succ, List.getElem?_cons_zero, List.getElem?_cons_succ, List.length_cons, List.length_nil, List.cons_append, List.nil_append, List.replicate, if_true, if_false, Bool.false_eq_true, Bool.true_and, Bool.false_and, Bool.and_true, Bool.and_false, Bool.not_true, Bool.not_false, Bool.or_true, Bool.or_false, Bool.true_or, Bool.false_or, true_and, and_true, ite_self, reduceCtorEq, forL, lcL, zF] at hP ⊢
          exact ⟨by decide, hP⟩
        · rw [List.nil_append, unit_data]
          obtain ⟨u1, u2⟩ := unit_shares (n := n) (a := a) (by omega)
          exact hN _ ⟨unitR n a, _, _, _, _, _, rfl, u1, u2.mono (by decide)⟩
      · exact hN _ ⟨r, _, _, _, _, _, rfl, hg⟩
    rintro ρ ⟨r, y7, y8, y9, y10, y11, rfl, hg⟩
    refine seq_mid P (fun N hN => ?_) ?_
    · refine if_any (fun Q hQ => ?_) ?_ ?_
      · simp only [LN, e_c, vOf.eq_1, vOf.eq_2, bOf.eq_1, bOf.eq_2, bOf.eq_3, e_v, b_v, e_f, e_op, e_un, o_add.eq_1, o_add.eq_2, o_add.eq_3, o_add.eq_4, o_add.eq_5, o_sub.eq_1, o_sub.eq_2, o_mul.eq_1, o_mul.eq_2, o_mul.eq_3, o_mul.eq_4, o_fdiv.eq_1, o_fdiv.eq_2, o_mod.eq_1, o_mod.eq_2, o_lt.eq_1, o_lt.eq_2, o_le.eq_1, o_le.eq_2, o_gt.eq_1, o_gt.eq_2, o_ge.eq_1, o_ge.eq_2, o_eq_int, o_ne_int, isNone.eq_1, isNone.eq_2, o_isN, o_notN, o_isB.eq_1, o_isB.eq_2, o_notB.eq_1, o_notB.eq_2, o_neg.eq_1, o_neg.eq_2, kOf.eq_1, kOf.eq_2, c_e, c_and, c_or, c_not, e_and, e_or, e_not, e_if, e_ch, a_nil, a_cons, isDraw.eq_1, isDraw.eq_2, a_draw, e_tup, listOf.eq_1, listOf.eq_2, f_op, f_lst, e_call, oOf.eq_1, oOf.eq_2, o_ix.eq_1, o_ix.eq_2, o_ix.eq_3, iOf.eq_1, iOf.eq_2, p_none, p_some, o_sl.eq_1, o_sl.eq_2, o_sl.eq_3, e_sl, o_len.eq_1, o_len.eq_2, o_len.eq_3, o_len.eq_4, o_abs.eq_1, o_abs.eq_2, o_int.eq_1, o_int.eq_2, o_int.eq_3, isTy.eq_1, isTy.eq_2, isTy.eq_3, isTy.eq_4, isTy.eq_5, isTy.eq_6, isTy.eq_7, o_isin, o_tuple.eq_1, o_tuple.eq_2, o_tuple.eq_3, seqQ.eq_1, seqQ.eq_2, seqQ.eq_3, f_list, someOf.eq_1, someOf.eq_2, o_sum, o_maxS, o_minS, o_all.eq_1, o_all.eq_2, o_any.eq_1, o_any.eq_2, o_max.eq_1, o_max.eq_2, o_min.eq_1, o_min.eq_2, o_min3.eq_1, o_min3.eq_2, e_op3, o_repr, i_seq, nOf.eq_1, nOf.eq_2, i_rng1, i_rng2, i_rngD, rgOf.eq_1, rgOf.eq_2, i_rngV, i_num, i_zip2, i_zip, i_enum, g_n, g_nil.eq_1, g_nil.eq_2, g_cons.eq_1, g_cons.eq_2, g_tup.eq_1, g_tup.eq_2, wipeE.eq_1, wipeE.eq_2, f_lc, c_yes, s_nil, s_seq, s_brk, s_cnt, s_set, s_own, s_rng, s_unp, s_par, s_if, s_ret, s_ex, frzA.eq_1, frzA.eq_2, frzA.eq_3, frz, s_frz, ownOf.eq_1, ownOf.eq_2, s_app, s_insert, ixOf, o_rev.eq_1, o_rev.eq_2, nstOf.eq_1, nstOf.eq_2, b_nix, s_sub2, s_app2, lcN.eq_1, lcN.eq_2, s_nst, s_sub, popQ, s_pop, s_popS, tup2.eq_1, tup2.eq_2, sub1, s_swp, sub2, s_swp2, f_lrng, s_for, isScr.eq_1, isScr.eq_2, s_draw, s_raise, strQ.eq_1, strQ.eq_2, intQ.eq_1, intQ.eq_2, s_raiseR, only, exM.eq_1, exM.eq_2, exM.eq_3, s_tryM, exMR.eq_1, exMR.eq_2, exMR.eq_3, s_tryMR, F_angle, startL.eq_1, startL.eq_2, startL.eq_3, start, List.set_cons_zero, List.set_cons_succ, List.getElem?_cons_zero, List.getElem?_cons_succ, List.length_cons, List.length_nil, List.cons_append, List.nil_append, List.replicate, if_true, if_false, Bool.false_eq_true, Bool.true_and, Bool.false_and, Bool.and_true, Bool.and_false, Bool.not_true, Bool.not_false, Bool.or_true, Bool.or_false, Bool.true_or, Bool.false_or, true_and, and_true, ite_self, reduceCtorEq, forL, lcL]
        exact hQ _
      · have hdiv : divOk 2 := divOk_of (b := 2) (by decide) (by decide) (by decide)
        have hmul : mulOk ((i / 2 : Nat) : Int) 2 := mulOk_of (a := 3) (b := 2) (by omega) (by decide) (by decide)
        obtain ⟨b, hb⟩ : ∃ b : Nat, b = i / 2 * 2 := ⟨_, rfl⟩
        have hbi : ((i / 2 : Nat) : Int) * 2 = (b : Int) := by omega
        have hbn : b < n := by omega
        simp only [LN, e_c, vOf.eq_1, vOf.eq_2, bOf.eq_1, bOf.eq_2, bOf.eq_3, e_v, b_v, e_f, e_op, e_un, o_add.eq_1, o_add.eq_2, o_add.eq_3, o_add.eq_4, o_add.eq_5, o_sub.eq_1, o_sub.eq_2, o_mul.eq_1, o_mul.eq_2, o_mul.eq_3, o_mul.eq_4, o_fdiv.eq_1, o_fdiv.eq_2, o_mod.eq_1, o_mod.eq_2, o_lt.eq_1, o_lt.eq_2, o_le.eq_1, o_le.eq_2, o_gt.eq_1, o_gt.eq_2, o_ge.eq_1, o_ge.eq_2, o_eq_int, o_ne_int, isNone.eq_1, isNone.eq_2, o_isN, o_notN, o_isB.eq_1, o_isB.eq_2, o_notB.eq_1, o_notB.eq_2, o_neg.eq_1, o_neg.eq_2, kOf.eq_1, kOf.eq_2, c_e, c_and, c_or, c_not, e_and, e_or, e_not, e_if, e_ch, a_nil, a_cons, isDraw.eq_1, isDraw.eq_2, a_draw, e_tup, listOf.eq_1, listOf.eq_2, f_op, f_lst, e_call, oOf.eq_1, oOf.eq_2, o_ix.eq_1, o_ix.eq_2, o_ix.eq_3, iOf.eq_1, iOf.eq_2, p_none, p_some, o_sl.eq_1, o_sl.eq_2, o_sl.eq_3, e_sl, o_len.eq_1, o_len.eq_2, o_len.eq_3, o_len.eq_4, o_abs.eq_1, o_abs.eq_2, o_int.eq_1, o_int.eq_2, o_int.eq_3, isTy.eq_1, isTy.eq_2, isTy.eq_3, isTy.eq_4, isTy.eq_5, isTy.eq_6, isTy.eq_7, o_isin, o_tuple.eq_1, o_tuple.eq_2, o_tuple.eq_3, seqQ.eq_1, seqQ.eq_2, seqQ.eq_3, f_list, someOf.eq_1, someOf.eq_2, o_sum, o_maxS, o_minS, o_all.eq_1, o_all.eq_2, o_any.eq_1, o_any.eq_2, o_max.eq_1, o_max.eq_2, o_min.eq_1, o_min.eq_2, o_min3.eq_1, o_min3.eq_2, e_op3, o_repr, i_seq, nOf.eq_1, nOf.eq_2, i_rng1, i_rng2, i_rngD, rgOf.eq_1, rgOf.eq_2, i_rngV, i_num, i_zip2, i_zip, i_enum, g_n, g_nil.eq_1, g_nil.eq_2, g_cons.eq_1, g_cons.eq_2, g_tup.eq_1, g_tup.eq_2, wipeE.eq_1, wipeE.eq_2, f_lc, c_yes, s_nil, s_seq, s_brk, s_cnt, s_set, s_own, s_rng, s_unp, s_par, s_if, s_ret, s_ex, frzA.eq_1, frzA.eq_2, frzA.eq_3, frz, s_frz, ownOf.eq_1, ownOf.eq_2, s_app, s_insert, o_rev.eq_1, o_rev.eq_2, nstOf.eq_1, nstOf.eq_2, b_nix, s_sub2, s_app2, lcN.eq_1, lcN.eq_2, s_nst, s_sub, popQ, s_pop, s_popS, tup2.eq_1, tup2.eq_2, sub1, s_swp, sub2, s_swp2, f_lrng, s_for, isScr.eq_1, isScr.eq_2, s_draw, s_raise, strQ.eq_1, strQ.eq_2, intQ.eq_1, intQ.eq_2, s_raiseR, only, exM.eq_1, exM.eq_2, exM.eq_3, s_tryM, exMR.eq_1, exMR.eq_2, exMR.eq_3, s_tryMR, F_angle, startL.eq_1, startL.eq_2, startL.eq_3, start, List.set_cons_zero, List.set_cons_succ, List.getElem?_cons_zero, List.getElem?_cons_succ, List.length_cons, List.length_nil, List.cons_append, List.nil_append, List.replicate, if_true, if_false, Bool.false_eq_true, Bool.true_and, Bool.false_and, Bool.and_true, Bool.and_false, Bool.not_true, Bool.not_false, Bool.or_true, Bool.or_false, Bool.true_or, Bool.false_or, true_and, and_true, ite_self, reduceCtorEq, forL, lcL, fdiv2, hbi]
        refine ⟨hdiv, hmul, by decide, by decide, ⟨by omega, by omega, by decide⟩, ?_⟩
        rw [Int.toNat_natCast]
        rw [rep_flat]
        refine p_take (by decide) (by decide) fun p p0 p3 => ⟨by decide, ix_nat rfl (by simp; exact hbn) ?_⟩
        obtain ⟨c, hc⟩ : ∃ c : Nat, c = if b + 1 ≤ n - 1 then b + 1 else n - 1 := ⟨_, rfl⟩
        have hcz : (if (n : Int) - 1 < (b : Int) + 1 then (n : Int) - 1 else (b : Int) + 1) = c := by
          subst hc
          split <;> split <;> omega
        have hcn : c < n := by subst hc; split <;> omega
        rw [hcz]
        have last : ∀ (v : Rat), 0 ≤ v → v.den ≤ 2 → (((List.replicate n (PyData.tuple [.int 0, .int 1])).set b (.tuple [.int (2 - p), .int 2])).set c (rD v)).length ≤ 1000000 →
            ((((List.replicate n (PyData.tuple [.int 0, .int 1])).set b (.tuple [.int (2 - p), .int 2])).set c (rD v)).map pv).sum = 1 →
            lcL (g_n 11) c_yes (e_call c_law_ratio (a_cons (e_op o_ix (b_v 11) (e_c (.int 0))) (a_cons (e_op o_ix (b_v 11) (e_c (.int 1))) a_nil)))
              [.draw, .val (.int 6), .val (.int n), .val (.int kd), .own (m.map lR), .val (.int i), .own (((List.replicate n (.tuple [.int 0, .int 1])).set b (.tuple [.int (2 - p), .int 2])).set c (rD v)), y7, .val (.int b), .val (.int p), y10, .emp]
              (fun ds => N [.draw, .val (.int 6), .val (.int n), .val (.int kd), .own (m.map lR), .val (.int i), .own ds, y7, .val (.int b), .val (.int p), y10, y11]) (((List.replicate n (PyData.tuple [.int 0, .int 1])).set b (.tuple [.int (2 - p), .int 2])).set c (rD v)) [] := by
          intro v v0 v4 _ hs
          have hok : ∀ d ∈ (((List.replicate n (PyData.tuple [.int 0, .int 1])).set b (.tuple [.int (2 - p), .int 2])).set c (rD v)), prOk d := by
            intro d hd
            rcases List.mem_or_eq_of_mem_set hd with hd | rfl
            · rcases List.mem_or_eq_of_mem_set hd with hd | rfl
              · rw [(List.mem_replicate.mp hd).2]
                exact ⟨_, _, rfl, by decide, by decide, by decide⟩
              · exact ⟨_, _, rfl, by omega, by decide, by decide⟩
            · exact ⟨_, _, rfl, Rat.num_nonneg.mpr v0, by have := v.den_pos; omega, by omega⟩
          exact prs_row 11 (by simp) hok (hN _ ⟨_, _, _, _, _, _, rfl, pr_good (by simp) hok hs⟩)
        have evs : Rat.divInt (2 - p) 2 + Rat.divInt p 2 = 1 := by
          rw [divInt_add_same _ _ _ (by decide), show 2 - p + p = 2 by omega, divInt_self' _ (by decide)]
        have cl : (((List.replicate n (PyData.tuple [.int 0, .int 1])).set b (.tuple [.int (2 - p), .int 2])).length) = n := by simp
        have em : ∀ v : Rat, ((((List.replicate n (PyData.tuple [.int 0, .int 1])).set b (.tuple [.int (2 - p), .int 2])).set c (rD v)).map pv) = ((List.replicate n (0 : Rat)).set b (Rat.divInt (2 - p) 2)).set c v := by
          intro v
          rw [List.map_set, List.map_set, List.map_replicate, pv_rD]
          rfl
        by_cases hcb : b + 1 ≤ n - 1
        · rw [if_pos hcb] at hc
          have a1 : at_ ((List.replicate n (PyData.tuple [.int 0, .int 1])).set b (.tuple [.int (2 - p), .int 2])) (c : Int) = some (.tuple [.int 0, .int 1]) := by
            apply at_nat
            rw [List.getElem?_set_ne (by omega)]
            simp [hcn]
          rw [a1]
          refine ⟨by decide, p_law_plus_raw (by decide) (by decide) (by omega) (by decide) (by decide) (by decide) ?_⟩
          refine ix_nat rfl (by rw [cl]; exact hcn) ⟨by simp; omega, ?_⟩
          have ev : Rat.divInt 0 1 + Rat.divInt p 2 = Rat.divInt p 2 := by rw [Rat.zero_divInt, Rat.zero_add]
          rw [ev]
          refine last _ (divInt_nonneg p0 (by decide)) (Nat.le_trans (divInt_den_le p 2 (by decide)) (by decide)) (by simp; omega) ?_
          rw [em, sum_set _ _ _ (by simp; exact hcn), sum_set _ _ _ (by simp; exact hbn), zeros_sum, List.getElem_set_ne (by omega), List.getElem_replicate, List.getElem_replicate]
          grind
        · rw [if_neg hcb] at hc
          have hcb' : c = b := by omega
          subst hcb'
          have a1 : at_ ((List.replicate n (PyData.tuple [.int 0, .int 1])).set c (.tuple [.int (2 - p), .int 2])) (c : Int) = some (.tuple [.int (2 - p), .int 2]) := by
            apply at_nat
            rw [List.getElem?_set_self (by simp; exact hcn)]
          rw [a1]
          refine ⟨by decide, p_law_plus_raw (by omega) (by decide) (by omega) (by decide) (by decide) (by decide) ?_⟩
          refine ix_nat rfl (by rw [cl]; exact hcn) ⟨by simp; omega, ?_⟩
          rw [evs]
          refine last 1 (by decide) (by decide) (by simp; omega) ?_
          rw [em, List.set_set, sum_set _ _ _ (by simp; exact hcn), zeros_sum, List.getElem_replicate]
          grind
      · exact hN _ ⟨r, _, _, _, _, _, rfl, hg⟩
    rintro ρ ⟨r, y7, y8, y9, y10, y11, rfl, hg⟩
    simp only [LN, e_c, vOf.eq_1, vOf.eq_2, bOf.eq_1, bOf.eq_2, bOf.eq_3, e_v, b_v, e_f, e_op, e_un, o_add.eq_1, o_add.eq_2, o_add.eq_3, o_add.eq_4, o_add.eq_5, o_sub.eq_1, o_sub.eq_2, o_mul.eq_1, o_mul.eq_2, o_mul.eq_3, o_mul.eq_4, o_fdiv.eq_1, o_fdiv.eq_2, o_mod.eq_1, o_mod.eq_2, o_lt.eq_1, o_lt.eq_2, o_le.eq_1, o_le.eq_2, o_gt.eq_1, o_gt.eq_2, o_ge.eq_1, o_ge.eq_2, o_eq_int, o_ne_int, isNone.eq_1, isNone.eq_2, o_isN, o_notN, o_isB.eq_1, o_isB.eq_2, o_notB.eq_1, o_notB.eq_2, o_neg.eq_1, o_neg.eq_2, kOf.eq_1, kOf.eq_2, c_e, c_and, c_or, c_not, e_and, e_or, e_not, e_if, e_ch, a_nil, a_cons, isDraw.eq_1, isDraw.eq_2, a_draw, e_tup, listOf.eq_1, listOf.eq_2, f_op, f_lst, e_call, oOf.eq_1, oOf.eq_2, o_ix.eq_1, o_ix.eq_2, o_ix.eq_3, iOf.eq_1, iOf.eq_2, p_none, p_some, o_sl.eq_1, o_sl.eq_2, o_sl.eq_3, e_sl, o_len.eq_1, o_len.eq_2, o_len.eq_3, o_len.eq_4, o_abs.eq_1, o_abs.eq_2, o_int.eq_1, o_int.eq_2, o_int.eq_3, isTy.eq_1, isTy.eq_2, isTy.eq_3, isTy.eq_4, isTy.eq_5, isTy.eq_6, isTy.eq_7, o_isin, o_tuple.eq_1, o_tuple.eq_2, o_tuple.eq_3, seqQ.eq_1, seqQ.eq_2, seqQ.eq_3, f_list, someOf.eq_1, someOf.eq_2, o_sum, o_maxS, o_minS, o_all.eq_1, o_all.eq_2, o_any.eq_1, o_any.eq_2, o_max.eq_1, o_max.eq_2, o_min.eq_1, o_min.eq_2, o_min3.eq_1, o_min3.eq_2, e_op3, o_repr, i_seq, nOf.eq_1, nOf.eq_2, i_rng1, i_rng2, i_rngD, rgOf.eq_1, rgOf.eq_2, i_rngV, i_num, i_zip2, i_zip, i_enum, g_n, g_nil.eq_1, g_nil.eq_2, g_cons.eq_1, g_cons.eq_2, g_tup.eq_1, g_tup.eq_2, wipeE.eq_1, wipeE.eq_2, f_lc, c_yes, s_nil, s_seq, s_brk, s_cnt, s_set, s_own, s_rng, s_unp, s_par, s_if, s_ret, s_ex, frzA.eq_1, frzA.eq_2, frzA.eq_3, frz, s_frz, ownOf.eq_1, ownOf.eq_2, s_app, s_insert, ixOf, o_rev.eq_1, o_rev.eq_2, nstOf.eq_1, nstOf.eq_2, b_nix, s_sub2, s_app2, lcN.eq_1, lcN.eq_2, s_nst, s_sub, popQ, s_pop, s_popS, tup2.eq_1, tup2.eq_2, sub1, s_swp, sub2, s_swp2, f_lrng, s_for, isScr.eq_1, isScr.eq_2, s_draw, s_raise, strQ.eq_1, strQ.eq_2, intQ.eq_1, intQ.eq_2, s_raiseR, only, exM.eq_1, exM.eq_2, exM.eq_3, s_tryM, exMR.eq_1, exMR.eq_2, exMR.eq_3, s_tryMR, F_angle, startL.eq_1, startL.eq_2, startL.eq_3, start, List.set_cons_zero, List.set_cons_succ, List.getElem?_cons_zero, List.getElem?_cons_succ, List.length_cons, List.length_nil, List.cons_append, List.nil_append, List.replicate, if_true, if_false, Bool.false_eq_true, Bool.true_and, Bool.false_and, Bool.and_true, Bool.and_false, Bool.not_true, Bool.not_false, Bool.or_true, Bool.or_false, Bool.true_or, Bool.false_or, true_and, and_true, ite_self, reduceCtorEq, forL, lcL]
    refine ⟨by simp; omega, hN1 _ ⟨m ++ [r], _, _, _, _, _, _, _, by rw [List.map_append]; rfl, by simp [hm], fun q hq => ?_⟩⟩
    rcases List.mem_append.mp hq with hq | hq
    · exact hr q hq
    · rw [List.mem_singleton.mp hq]; exact hg
  rintro ρ ⟨m, y5, y6, y7, y8, y9, y10, y11, rfl, hm, hr⟩
  refine seq_mid (fun ρ => ∃ (m : List (List Rat)) (y4 y5 y6 y7 y8 y9 y10 y11 : Sl), ρ = [.draw, .val (.int 6), .val (.int n), .val (.int kd), y4, y5, y6, y7, y8, y9, y10, y11] ∧ isL y4 (m.map lR) ∧ m.length = n ∧ ∀ r ∈ m, good n r) (fun N hN => ?_) ?_
  · refine if_any (fun Q hQ => ?_) ?_ ?_
    · simp only [LN, e_c, vOf.eq_1, vOf.eq_2, bOf.eq_1, bOf.eq_2, bOf.eq_3, e_v, b_v, e_f, e_op, e_un, o_add.eq_1, o_add.eq_2, o_add.eq_3, o_add.eq_4, o_add.eq_5, o_sub.eq_1, o_sub.eq_2, o_mul.eq_1, o_mul.eq_2, o_mul.eq_3, o_mul.eq_4, o_fdiv.eq_1, o_fdiv.eq_2, o_mod.eq_1, o_mod.eq_2, o_lt.eq_1, o_lt.eq_2, o_le.eq_1, o_le.eq_2, o_gt.eq_1, o_gt.eq_2, o_ge.eq_1, o_ge.eq_2, o_eq_int, o_ne_int, isNone.eq_1, isNone.eq_2, o_isN, o_notN, o_isB.eq_1, o_isB.eq_2, o_notB.eq_1, o_notB.eq_2, o_neg.eq_1, o_neg.eq_2, kOf.eq_1, kOf.eq_2, c_e, c_and, c_or, c_not, e_and, e_or, e_not, e_if, e_ch, a_nil, a_cons, isDraw.eq_1, isDraw.eq_2, a_draw, e_tup, listOf.eq_1, listOf.eq_2, f_op, f_lst, e_call, oOf.eq_1, oOf.eq_2, o_ix.eq_1, o_ix.eq_2, o_ix.eq_3, iOf.eq_1, iOf.eq_2, p_none, p_some, o_sl.eq_1, o_sl.eq_2, o_sl.eq_3, e_sl, o_len.eq_1, o_len.eq_2, o_len.eq_3, o_len.eq_4, o_abs.eq_1, o_abs.eq_2, o_int.eq_1, o_int.eq_2, o_int.eq_3, isTy.eq_1, isTy.eq_2, isTy.eq_3, isTy.eq_4, isTy.eq_5, isTy.eq_6, isTy.eq_7, o_isin, o_tuple.eq_1, o_tuple.eq_2, o_tuple.eq_3, seqQ.eq_1, seqQ.eq_2, seqQ.eq_3, f_list, someOf.eq_1, someOf.eq_2, o_sum, o_maxS, o_minS, o_all.eq_1, o_all.eq_2, o_any.eq_1, o_any.eq_2, o_max.eq_1, o_max.eq_2, o_min.eq_1, o_min.eq_2, o_min3.eq_1, o_min3.eq_2, e_op3, o_repr, i_seq, nOf.eq_1, nOf.eq_2, i_rng1, i_rng2, i_rngD, rgOf.eq_1, rgOf.eq_2, i_rngV, i_num, i_zip2, i_zip, i_enum, g_n, g_nil.eq_1, g_nil.eq_2, g_cons.eq_1, g_cons.eq_2, g_tup.eq_1, g_tup.eq_2, wipeE.eq_1, wipeE.eq_2, f_lc, c_yes, s_nil, s_seq, s_brk, s_cnt, s_set, s_own, s_rng, s_unp, s_par, s_if, s_ret, s_ex, frzA.eq_1, frzA.eq_2, frzA.eq_3, frz, s_frz, ownOf.eq_1, ownOf.eq_2, s_app, s_insert, ixOf, o_rev.eq_1, o_rev.eq_2, nstOf.eq_1, nstOf.eq_2, b_nix, s_sub2, s_app2, lcN.eq_1, lcN.eq_2, s_nst, s_sub, popQ, s_pop, s_popS, tup2.eq_1, tup2.eq_2, sub1, s_swp, sub2, s_swp2, f_lrng, s_for, isScr.eq_1, isScr.eq_2, s_draw, s_raise, strQ.eq_1, strQ.eq_2, intQ.eq_1, intQ.eq_2, s_raiseR, only, exM.eq_1, exM.eq_2, exM.eq_3, s_tryM, exMR.eq_1, exMR.eq_2, exMR.eq_3, s_tryMR, F_angle, startL.eq_1, startL.eq_2, startL.eq_3, start, List.set_cons_zero, List.set_cons_succ, List.getElem?_cons_zero, List.getElem?_cons_succ, List.length_cons, List.length_nil, List.cons_append, List.nil_append, List.replicate, if_true, if_false, Bool.false_eq_true, Bool.true_and, Bool.false_and, Bool.and_true, Bool.and_false, Bool.not_true, Bool.not_false, Bool.or_true, Bool.or_false, Bool.true_or, Bool.false_or, true_and, and_true, ite_self, reduceCtorEq, forL, lcL]
      exact hQ _
    · simp only [LN, e_c, vOf.eq_1, vOf.eq_2, bOf.eq_1, bOf.eq_2, bOf.eq_3, e_v, b_v, e_f, e_op, e_un, o_add.eq_1, o_add.eq_2, o_add.eq_3, o_add.eq_4, o_add.eq_5, o_sub.eq_1, o_sub.eq_2, o_mul.eq_1, o_mul.eq_2, o_mul.eq_3, o_mul.eq_4, o_fdiv.eq_1, o_fdiv.eq_2, o_mod.eq_1, o_mod.eq_2, o_lt.eq_1, o_lt.eq_2, o_le.eq_1, o_le.eq_2, o_gt.eq_1, o_gt.eq_2, o_ge.eq_1, o_ge.eq_2, o_eq_int, o_ne_int, isNone.eq_1, isNone.eq_2, o_isN, o_notN, o_isB.eq_1, o_isB.eq_2, o_notB.eq_1, o_notB.eq_2, o_neg.eq_1, o_neg.eq_2, kOf.eq_1, kOf.eq_2, c_e, c_and, c_or, c_not, e_and, e_or, e_not, e_if, e_ch, a_nil, a_cons, isDraw.eq_1, isDraw.eq_2, a_draw, e_tup, listOf.eq_1, listOf.eq_2, f_op, f_lst, e_call, oOf.eq_1, oOf.eq_2, o_ix.eq_1, o_ix.eq_2, o_ix.eq_3, iOf.eq_1, iOf.eq_2, p_none, p_some, o_sl.eq_1, o_sl.eq_2, o_sl.eq_3, e_sl, o_len.eq_1, o_len.eq_2, o_len.eq_3, o_len.eq_4, o_abs.eq_1, o_abs.eq_2, o_int.eq_1, o_int.eq_2, o_int.eq_3, isTy.eq_1, isTy.eq_2, isTy.eq_3, isTy.eq_4, isTy.eq_5, isTy.eq_6, isTy.eq_7, o_isin, o_tuple.eq_1, o_tuple.eq_2, o_tuple.eq_3, seqQ.eq_1, seqQ.eq_2, seqQ.eq_3, f_list, someOf.eq_1, someOf.eq_2, o_sum, o_maxS, o_minS, o_all.eq_1, o_all.eq_2, o_any.eq_1, o_any.eq_2, o_max.eq_1, o_max.eq_2, o_min.eq_1, o_min.eq_2, o_min3.eq_1, o_min3.eq_2, e_op3, o_repr, i_seq, nOf.eq_1, nOf.eq_2, i_rng1, i_rng2, i_rngD, rgOf.eq_1, rgOf.eq_2, i_rngV, i_num, i_zip2, i_zip, i_enum, g_n, g_nil.eq_1, g_nil.eq_2, g_cons.eq_1, g_cons.eq_2, g_tup.eq_1, g_tup.eq_2, wipeE.eq_1, wipeE.eq_2, f_lc, c_yes, s_nil, s_seq, s_brk, s_cnt, s_set, s_own, s_rng, s_unp, s_par, s_if, s_ret, s_ex, frzA.eq_1, frzA.eq_2, frzA.eq_3, frz, s_frz, ownOf.eq_1, ownOf.eq_2, s_app, s_insert, ixOf, o_rev.eq_1, o_rev.eq_2, nstOf.eq_1, nstOf.eq_2, b_nix, s_sub2, s_app2, lcN.eq_1, lcN.eq_2, s_nst, s_sub, popQ, s_pop, s_popS, tup2.eq_1, tup2.eq_2, sub1, s_swp, sub2, s_swp2, f_lrng, s_for, isScr.eq_1, isScr.eq_2, s_draw, s_raise, strQ.eq_1, strQ.eq_2, intQ.eq_1, intQ.eq_2, s_raiseR, only, exM.eq_1, exM.eq_2, exM.eq_3, s_tryM, exMR.eq_1, exMR.eq_2, exMR.eq_3, s_tryMR, F_angle, startL.eq_1, startL.eq_2, startL.eq_3, start, List.set_cons_zero, List.set_cons_succ, List.getElem?_cons_zero, List.getElem?_cons_succ, List.length_cons, List.length_nil, List.cons_append, List.nil_append, List.replicate, if_true, if_false, Bool.false_eq_true, Bool.true_and, Bool.false_and, Bool.and_true, Bool.and_false, Bool.not_true, Bool.not_false, Bool.or_true, Bool.or_false, Bool.true_or, Bool.false_or, true_and, and_true, ite_self, reduceCtorEq, forL, lcL]
      exact p_law_ranked h2 h6 fun m hm hr => hN _ ⟨m, _, _, _, _, _, _, _, _, rfl, .inr rfl, hm, fun r hr' => ⟨(hr r hr').1, (hr r hr').2.mono (by decide)⟩⟩
    · exact hN _ ⟨m, _, _, _, _, _, _, _, _, rfl, .inl rfl, hm, hr⟩
  rintro ρ ⟨m, y4, y5, y6, y7, y8, y9, y10, y11, rfl, hy4, hm, hr⟩
  simp only [LN, e_c, vOf.eq_1, vOf.eq_2, bOf.eq_1, bOf.eq_2, bOf.eq_3, e_v, b_v, e_f, e_op, e_un, o_add.eq_1, o_add.eq_2, o_add.eq_3, o_add.eq_4, o_add.eq_5, o_sub.eq_1, o_sub.eq_2, o_mul.eq_1, o_mul.eq_2, o_mul.eq_3, o_mul.eq_4, o_fdiv.eq_1, o_fdiv.eq_2, o_mod.eq_1, o_mod.eq_2, o_lt.eq_1, o_lt.eq_2, o_le.eq_1, o_le.eq_2, o_gt.eq_1, o_gt.eq_2, o_ge.eq_1, o_ge.eq_2, o_eq_int, o_ne_int, isNone.eq_1, isNone.eq_2, o_isN, o_notN, o_isB.eq_1, o_isB.eq_2, o_notB.eq_1, o_notB.eq_2, o_neg.eq_1, o_neg.eq_2, kOf.eq_1, kOf.eq_2, c_e, c_and, c_or, c_not, e_and, e_or, e_not, e_if, e_ch, a_nil, a_cons, isDraw.eq_1, isDraw.eq_2, a_draw, e_tup, listOf.eq_1, listOf.eq_2, f_op, f_lst, e_call, oOf.eq_1, oOf.eq_2, o_ix.eq_1, o_ix.eq_2, o_ix.eq_3, iOf.eq_1, iOf.eq_2, p_none, p_some, o_sl.eq_1, o_sl.eq_2, o_sl.eq_3, e_sl, o_len.eq_1, o_len.eq_2, o_len.eq_3, o_len.eq_4, o_abs.eq_1, o_abs.eq_2, o_int.eq_1, o_int.eq_2, o_int.eq_3, isTy.eq_1, isTy.eq_2, isTy.eq_3, isTy.eq_4, isTy.eq_5, isTy.eq_6, isTy.eq_7, o_isin, o_tuple.eq_1, o_tuple.eq_2, o_tuple.eq_3, seqQ.eq_1, seqQ.eq_2, seqQ.eq_3, f_list, someOf.eq_1, someOf.eq_2, o_sum, o_maxS, o_minS, o_all.eq_1, o_all.eq_2, o_any.eq_1, o_any.eq_2, o_max.eq_1, o_max.eq_2, o_min.eq_1, o_min.eq_2, o_min3.eq_1, o_min3.eq_2, e_op3, o_repr, i_seq, nOf.eq_1, nOf.eq_2, i_rng1, i_rng2, i_rngD, rgOf.eq_1, rgOf.eq_2, i_rngV, i_num, i_zip2, i_zip, i_enum, g_n, g_nil.eq_1, g_nil.eq_2, g_cons.eq_1, g_cons.eq_2, g_tup.eq_1, g_tup.eq_2, wipeE.eq_1, wipeE.eq_2, f_lc, c_yes, s_nil, s_seq, s_brk, s_cnt, s_set, s_own, s_rng, s_unp, s_par, s_if, s_ret, s_ex, frzA.eq_1, frzA.eq_2, frzA.eq_3, frz, s_frz, ownOf.eq_1, ownOf.eq_2, s_app, s_insert, ixOf, o_rev.eq_1, o_rev.eq_2, nstOf.eq_1, nstOf.eq_2, b_nix, s_sub2, s_app2, lcN.eq_1, lcN.eq_2, s_nst, s_sub, popQ, s_pop, s_popS, tup2.eq_1, tup2.eq_2, sub1, s_swp, sub2, s_swp2, f_lrng, s_for, isScr.eq_1, isScr.eq_2, s_draw, s_raise, strQ.eq_1, strQ.eq_2, intQ.eq_1, intQ.eq_2, s_raiseR, only, exM.eq_1, exM.eq_2, exM.eq_3, s_tryM, exMR.eq_1, exMR.eq_2, exMR.eq_3, s_tryMR, F_angle, startL.eq_1, startL.eq_2, startL.eq_3, start, List.set_cons_zero, List.set_cons_succ, List.getElem?_cons_zero, List.getElem?_cons_succ, List.length_cons, List.length_nil, List.cons_append, List.nil_append, List.replicate, if_true, if_false, Bool.false_eq_true, Bool.true_and, Bool.false_and, Bool.and_true, Bool.and_false, Bool.not_true, Bool.not_false, Bool.or_true, Bool.or_false, Bool.true_or, Bool.false_or, true_and, and_true, ite_self, reduceCtorEq, forL, lcL, bOf_isL hy4]
  refine ⟨by rw [List.length_map]; omega, ?_⟩
  refine lc_fun (fun d => match d with | .list ds => .tuple ds | d => d) _ [] (fun d hd P hP => ?_) ?_
  · obtain ⟨r, hr', rfl⟩ := List.mem_map.mp hd
    simp only [LN, e_c, vOf.eq_1, vOf.eq_2, bOf.eq_1, bOf.eq_2, bOf.eq_3, e_v, b_v, e_f, e_op, e_un, o_add.eq_1, o_add.eq_2, o_add.eq_3, o_add.eq_4, o_add.eq_5, o_sub.eq_1, o_sub.eq_2, o_mul.eq_1, o_mul.eq_2, o_mul.eq_3, o_mul.eq_4, o_fdiv.eq_1, o_fdiv.eq_2, o_mod.eq_1, o_mod.eq_2, o_lt.eq_1, o_lt.eq_2, o_le.eq_1, o_le.eq_2, o_gt.eq_1, o_gt.eq_2, o_ge.eq_1, o_ge.eq_2, o_eq_int, o_ne_int, isNone.eq_1, isNone.eq_2, o_isN, o_notN, o_isB.eq_1, o_isB.eq_2, o_notB.eq_1, o_notB.eq_2, o_neg.eq_1, o_neg.eq_2, kOf.eq_1, kOf.eq_2, c_e, c_and, c_or, c_not, e_and, e_or, e_not, e_if, e_ch, a_nil, a_cons, isDraw.eq_1, isDraw.eq_2, a_draw, e_tup, listOf.eq_1, listOf.eq_2, f_op, f_lst, e_call, oOf.eq_1, oOf.eq_2, o_ix.eq_1, o_ix.eq_2, o_ix.eq_3, iOf.eq_1, iOf.eq_2, p_none, p_some, o_sl.eq_1, o_sl.eq_2, o_sl.eq_3, e_sl, o_len.eq_1, o_len.eq_2, o_len.eq_3, o_len.eq_4, o_abs.eq_1, o_abs.eq_2, o_int.eq_1, o_int.eq_2, o_int.eq_3, isTy.eq_1, isTy.eq_2, isTy.eq_3, isTy.eq_4, isTy.eq_5, isTy.eq_6, isTy.eq_7, o_isin, o_tuple.eq_1, o_tuple.eq_2, o_tuple.eq_3, seqQ.eq_1, seqQ.eq_2, seqQ.eq_3, f_list, someOf.eq_1, someOf.eq_2, o_sum, o_maxS, o_minS, o_all.eq_1, o_all.eq_2, o_any.eq_1, o_any.eq_2, o_max.eq_1, o_max.eq_2, o_min.eq_1, o_min.eq_2, o_min3.eq_1, o_min3.eq_2, e_op3, o_repr, i_seq, nOf.eq_1, nOf.eq_2, i_rng1, i_rng2, i_rngD, rgOf.eq_1, rgOf.eq_2, i_rngV, i_num, i_zip2, i_zip, i_enum, g_n, g_nil.eq_1, g_nil.eq_2, g_cons.eq_1, g_cons.eq_2, g_tup.eq_1, g_tup.eq_2, wipeE.eq_1, wipeE.eq_2, f_lc, c_yes, s_nil, s_seq, s_brk, s_cnt, s_set, s_own, s_rng, s_unp, s_par, s_if, s_ret, s_ex, frzA.eq_1, frzA.eq_2, frzA.eq_3, frz, s_frz, ownOf.eq_1, ownOf.eq_2, s_app, s_insert, ixOf, o_rev.eq_1, o_rev.eq_2, nstOf.eq_1, nstOf.eq_2, b_nix, s_sub2, s_app2, lcN.eq_1, lcN.eq_2, s_nst, s_sub, popQ, s_pop, s_popS, tup2.eq_1, tup2.eq_2, sub1, s_swp, sub2, s_swp2, f_lrng, s_for, isScr.eq_1, isScr.eq_2, s_draw, s_raise, strQ.eq_1, strQ.eq_2, intQ.eq_1, intQ.eq_2, s_raiseR, only, exM.eq_1, exM.eq_2, exM.eq_3, s_tryM, exMR.eq_1, exMR.eq_2, exMR.eq_3, s_tryMR, F_angle, startL.eq_1, startL.eq_2, startL.eq_3, start, List.set_cons_zero, List.set_cons_succ, List.getElem?_cons_zero, List.getElem?_cons_succ, List.length_cons, List.length_nil, List.cons_append, List.nil_append, List.replicate, if_true, if_false, Bool.false_eq_true, Bool.true_and, Bool.false_and, Bool.and_true, Bool.and_false, Bool.not_true, Bool.not_false, Bool.or_true, Bool.or_false, Bool.true_or, Bool.false_or, true_and, and_true, ite_self, reduceCtorEq, forL, lcL, lR] at hP ⊢
    exact hP
  · have e : (m.map lR).map (fun d => match d with | .list ds => .tuple ds | d => d) = m.map tR := by
      rw [List.map_map]
      rfl
    rw [List.nil_append, e]
    exact h n m ⟨h2, h6, hm, fun r hr' => (hr r hr').1, fun r hr' q hq => Nat.le_trans ((hr r hr').2.le q hq) (by decide)⟩ fun r hr' => (hr r hr').2

theorem p_tot_to {r : List Rat} {j B : Nat} {Q : D → Prop} {x : EX} (h : ∀ q ∈ r, sz B q) (hl : 1 + r.length * (B + 1) ≤ 8999) (hQ : Q (rD (P r j))) : c_total [.tuple ((r.map rD).take j)] Q x := by
  rw [← List.map_take]
  refine p_total false (r.take j) (B := B) (fun q hq => h q (List.mem_of_mem_take hq)) (Nat.le_trans (Nat.add_le_add_left (Nat.mul_le_mul_right _ ?_) 1) hl) hQ
  rw [List.length_take]; omega
def rw_ (m : List (List Rat)) (i : Nat) : List Rat := m.getD i []
theorem rw_lt {m : List (List Rat)} {i : Nat} (h : i < m.length) : m[i]? = some (rw_ m i) := by
  unfold rw_
  rw [List.getD_eq_getElem?_getD, List.getElem?_eq_getElem h]; rfl
theorem rw_mem {m : List (List Rat)} {i : Nat} (h : i < m.length) : rw_ m i ∈ m := List.mem_of_getElem? (rw_lt h)
theorem at_mD {m : List (List Rat)} {i : Nat} (h : i < m.length) : at_ (m.map tR) (i : Int) = some (tR (rw_ m i)) := by
  apply at_nat
  rw [List.getElem?_map, rw_lt h]; rfl
def dueJ (m : List (List Rat)) (n i : Nat) : Option Nat := (List.range (n - 1)).find? fun t => decide (P (rw_ m i) (t + 1) < P (rw_ m (i + 1)) (t + 1))
def dueI (m : List (List Rat)) (n : Nat) : Option Nat := (List.range (n - 1)).find? fun i => (dueJ m n i).isSome
def pairD (m : List (List Rat)) (n i : Nat) : D := match dueJ m n i with
  | some t => .tuple [.int i, .int (1 + t)]
  | none => .none
def dueD (m : List (List Rat)) (n : Nat) : D := match dueI m n with
  | some i => pairD m n i
  | none => .none
def step (n : Nat) (m : List (List Rat)) (s : List Rat) : List Rat := (List.range n).map fun j => sumR n fun i => gt s i * gt (rw_ m i) j
theorem step_len (n : Nat) (m : List (List Rat)) (s : List Rat) : (step n m s).length = n := by simp [step]
theorem step_sz {n : Nat} {m : List (List Rat)} {s : List Rat} {B : Nat} (M : Moves n m) (hl : s.length = n) (hB : ∀ q ∈ s, sz B q) : ∀ q ∈ step n m s, sz (1 + 6 * (B + 11)) q := by
  intro q hq
  obtain ⟨j, hj, rfl⟩ := List.mem_map.mp hq
  rw [List.mem_range] at hj
  have := sz_sum (B := B + 10) (qs := (List.range n).map fun i => gt s i * gt (rw_ m i) j) fun q hq => by
    obtain ⟨i, hi, rfl⟩ := List.mem_map.mp hq
    rw [List.mem_range] at hi
    have m1 := rw_mem (m := m) (i := i) (by rw [M.len]; omega)
    exact sz_mul (hB _ (gt_mem (by omega))) (M.sz m1 (gt_mem (by rw [(M.row _ m1).len]; omega)))
  refine sz.mono this ?_
  rw [List.length_map, List.length_range]
  exact Nat.add_le_add_left (Nat.mul_le_mul_right _ M.hi) 1
theorem p_stepped {n : Nat} {m : List (List Rat)} {s : List Rat} {B : Nat} (M : Moves n m) (hl : s.length = n) (hB : ∀ q ∈ s, sz B q) (hb : 1 + 6 * (B + 11) ≤ 8999) {Q : D → Prop} {x : EX} (hQ : Q (tR (step n m s))) : c_stepped [mD m, tR s] Q x := by
  refine ⟨rfl, ?_⟩
  have hlo := M.lo
  have hhi := M.hi
  simp only [LN, e_c, vOf.eq_1, vOf.eq_2, bOf.eq_1, bOf.eq_2, bOf.eq_3, e_v, b_v, e_f, e_op, e_un, o_add.eq_1, o_add.eq_2, o_add.eq_3, o_add.eq_4, o_add.eq_5, o_sub.eq_1, o_sub.eq_2, o_mul.eq_1, o_mul.eq_2, o_mul.eq_3, o_mul.eq_4, o_fdiv.eq_1, o_fdiv.eq_2, o_mod.eq_1, o_mod.eq_2, o_lt.eq_1, o_lt.eq_2, o_le.eq_1, o_le.eq_2, o_gt.eq_1, o_gt.eq_2, o_ge.eq_1, o_ge.eq_2, o_eq_int, o_ne_int, isNone.eq_1, isNone.eq_2, o_isN, o_notN, o_isB.eq_1, o_isB.eq_2, o_notB.eq_1, o_notB.eq_2, o_neg.eq_1, o_neg.eq_2, kOf.eq_1, kOf.eq_2, c_e, c_and, c_or, c_not, e_and, e_or, e_not, e_if, e_ch, a_nil, a_cons, isDraw.eq_1, isDraw.eq_2, a_draw, e_tup, listOf.eq_1, listOf.eq_2, f_op, f_lst, e_call, oOf.eq_1, oOf.eq_2, o_ix.eq_1, o_ix.eq_2, o_ix.eq_3, iOf.eq_1, iOf.eq_2, p_none, p_some, o_sl.eq_1, o_sl.eq_2, o_sl.eq_3, e_sl, o_len.eq_1, o_len.eq_2, o_len.eq_3, o_len.eq_4, o_abs.eq_1, o_abs.eq_2, o_int.eq_1, o_int.eq_2, o_int.eq_3, isTy.eq_1, isTy.eq_2, isTy.eq_3, isTy.eq_4, isTy.eq_5, isTy.eq_6, isTy.eq_7, o_isin, o_tuple.eq_1, o_tuple.eq_2, o_tuple.eq_3, seqQ.eq_1, seqQ.eq_2, seqQ.eq_3, f_list, someOf.eq_1, someOf.eq_2, o_sum, o_maxS, o_minS, o_all.eq_1, o_all.eq_2, o_any.eq_1, o_any.eq_2, o_max.eq_1, o_max.eq_2, o_min.eq_1, o_min.eq_2, o_min3.eq_1, o_min3.eq_2, e_op3, o_repr, i_seq, nOf.eq_1, nOf.eq_2, i_rng1, i_rng2, i_rngD, rgOf.eq_1, rgOf.eq_2, i_rngV, i_num, i_zip2, i_zip, i_enum, g_n, g_nil.eq_1, g_nil.eq_2, g_cons.eq_1, g_cons.eq_2, g_tup.eq_1, g_tup.eq_2, wipeE.eq_1, wipeE.eq_2, f_lc, c_yes, s_nil, s_seq, s_brk, s_cnt, s_set, s_own, s_rng, s_unp, s_par, s_if, s_ret, s_ex, frzA.eq_1, frzA.eq_2, frzA.eq_3, frz, s_frz, ownOf.eq_1, ownOf.eq_2, s_app, s_insert, o_rev.eq_1, o_rev.eq_2, nstOf.eq_1, nstOf.eq_2, b_nix, s_sub2, s_app2, lcN.eq_1, lcN.eq_2, s_nst, s_sub, popQ, s_pop, s_popS, tup2.eq_1, tup2.eq_2, sub1, s_swp, sub2, s_swp2, f_lrng, s_for, isScr.eq_1, isScr.eq_2, s_draw, s_raise, strQ.eq_1, strQ.eq_2, intQ.eq_1, intQ.eq_2, s_raiseR, only, exM.eq_1, exM.eq_2, exM.eq_3, s_tryM, exMR.eq_1, exMR.eq_2, exMR.eq_3, s_tryMR, F_angle, startL.eq_1, startL.eq_2, startL.eq_3, start, List.set_cons_zero, List.set_cons_succ, List.getElem?_cons_zero, List.getElem?_cons_succ, List.length_cons, List.length_nil, List.cons_append, List.nil_append, List.replicate, if_true, if_false, Bool.false_eq_true, Bool.true_and, Bool.false_and, Bool.and_true, Bool.and_false, Bool.not_true, Bool.not_false, Bool.or_true, Bool.or_false, Bool.true_or, Bool.false_or, true_and, and_true, ite_self, reduceCtorEq, forL, lcL, T_stepped, mD, tR, List.length_map, M.len, Int.sub_zero, Int.toNat_natCast]
  refine ⟨by unfold rOk; omega, ⟨⟨by unfold rOk; omega, by unfold rOk; omega⟩, by rw [upTo_eq]; simp; omega, ?_⟩⟩
  refine lc_fun (zF fun z => rD (sumR n fun i => gt s i * gt (rw_ m i) z.toNat)) _ [] (fun d hd Pp hP => ?_) ?_
  · rw [upTo_eq] at hd
    obtain ⟨j, hj, rfl⟩ := List.mem_map.mp hd
    rw [List.mem_range] at hj
    simp only [zF, Int.zero_add, Int.toNat_natCast] at hP
    simp only [LN, e_c, vOf.eq_1, vOf.eq_2, bOf.eq_1, bOf.eq_2, bOf.eq_3, e_v, b_v, e_f, e_op, e_un, o_add.eq_1, o_add.eq_2, o_add.eq_3, o_add.eq_4, o_add.eq_5, o_sub.eq_1, o_sub.eq_2, o_mul.eq_1, o_mul.eq_2, o_mul.eq_3, o_mul.eq_4, o_fdiv.eq_1, o_fdiv.eq_2, o_mod.eq_1, o_mod.eq_2, o_lt.eq_1, o_lt.eq_2, o_le.eq_1, o_le.eq_2, o_gt.eq_1, o_gt.eq_2, o_ge.eq_1, o_ge.eq_2, o_eq_int, o_ne_int, isNone.eq_1, isNone.eq_2, o_isN, o_notN, o_isB.eq_1, o_isB.eq_2, o_notB.eq_1, o_notB.eq_2, o_neg.eq_1, o_neg.eq_2, kOf.eq_1, kOf.eq_2, c_e, c_and, c_or, c_not, e_and, e_or, e_not, e_if, e_ch, a_nil, a_cons, isDraw.eq_1, isDraw.eq_2, a_draw, e_tup, listOf.eq_1, listOf.eq_2, f_op, f_lst, e_call, oOf.eq_1, oOf.eq_2, o_ix.eq_1, o_ix.eq_2, o_ix.eq_3, iOf.eq_1, iOf.eq_2, p_none, p_some, o_sl.eq_1, o_sl.eq_2, o_sl.eq_3, e_sl, o_len.eq_1, o_len.eq_2, o_len.eq_3, o_len.eq_4, o_abs.eq_1, o_abs.eq_2, o_int.eq_1, o_int.eq_2, o_int.eq_3, isTy.eq_1, isTy.eq_2, isTy.eq_3, isTy.eq_4, isTy.eq_5, isTy.eq_6, isTy.eq_7, o_isin, o_tuple.eq_1, o_tuple.eq_2, o_tuple.eq_3, seqQ.eq_1, seqQ.eq_2, seqQ.eq_3, f_list, someOf.eq_1, someOf.eq_2, o_sum, o_maxS, o_minS, o_all.eq_1, o_all.eq_2, o_any.eq_1, o_any.eq_2, o_max.eq_1, o_max.eq_2, o_min.eq_1, o_min.eq_2, o_min3.eq_1, o_min3.eq_2, e_op3, o_repr, i_seq, nOf.eq_1, nOf.eq_2, i_rng1, i_rng2, i_rngD, rgOf.eq_1, rgOf.eq_2, i_rngV, i_num, i_zip2, i_zip, i_enum, g_n, g_nil.eq_1, g_nil.eq_2, g_cons.eq_1, g_cons.eq_2, g_tup.eq_1, g_tup.eq_2, wipeE.eq_1, wipeE.eq_2, f_lc, c_yes, s_nil, s_seq, s_brk, s_cnt, s_set, s_own, s_rng, s_unp, s_par, s_if, s_ret, s_ex, frzA.eq_1, frzA.eq_2, frzA.eq_3, frz, s_frz, ownOf.eq_1, ownOf.eq_2, s_app, s_insert, o_rev.eq_1, o_rev.eq_2, nstOf.eq_1, nstOf.eq_2, b_nix, s_sub2, s_app2, lcN.eq_1, lcN.eq_2, s_nst, s_sub, popQ, s_pop, s_popS, tup2.eq_1, tup2.eq_2, sub1, s_swp, sub2, s_swp2, f_lrng, s_for, isScr.eq_1, isScr.eq_2, s_draw, s_raise, strQ.eq_1, strQ.eq_2, intQ.eq_1, intQ.eq_2, s_raiseR, only, exM.eq_1, exM.eq_2, exM.eq_3, s_tryM, exMR.eq_1, exMR.eq_2, exMR.eq_3, s_tryMR, F_angle, startL.eq_1, startL.eq_2, startL.eq_3, start, List.set_cons_zero, List.set_cons_succ, List.getElem?_cons_zero, List.getElem?_cons_succ, List.length_cons, List.length_nil, List.cons_append, List.nil_append, List.replicate, if_true, if_false, Bool.false_eq_true, Bool.true_and, Bool.false_and, Bool.and_true, Bool.and_false, Bool.not_true, Bool.not_false, Bool.or_true, Bool.or_false, Bool.true_or, Bool.false_or, true_and, and_true, ite_self, reduceCtorEq, forL, lcL, Int.zero_add, Int.sub_zero, Int.toNat_natCast]
    refine ⟨⟨by unfold rOk; omega, by unfold rOk; omega⟩, by rw [upTo_eq]; simp; omega, ?_⟩
    refine lc_fun (zF fun z => rD (gt s z.toNat * gt (rw_ m z.toNat) j)) _ [] (fun d hd Pp hP => ?_) ?_
    · rw [upTo_eq] at hd
      obtain ⟨i, hi, rfl⟩ := List.mem_map.mp hd
      rw [List.mem_range] at hi
      simp only [zF, Int.zero_add, Int.toNat_natCast] at hP
      have m1 := rw_mem (m := m) (i := i) (by rw [M.len]; omega)
      have l1 := (M.row _ m1).len
      simp only [LN, e_c, vOf.eq_1, vOf.eq_2, bOf.eq_1, bOf.eq_2, bOf.eq_3, e_v, b_v, e_f, e_op, e_un, o_add.eq_1, o_add.eq_2, o_add.eq_3, o_add.eq_4, o_add.eq_5, o_sub.eq_1, o_sub.eq_2, o_mul.eq_1, o_mul.eq_2, o_mul.eq_3, o_mul.eq_4, o_fdiv.eq_1, o_fdiv.eq_2, o_mod.eq_1, o_mod.eq_2, o_lt.eq_1, o_lt.eq_2, o_le.eq_1, o_le.eq_2, o_gt.eq_1, o_gt.eq_2, o_ge.eq_1, o_ge.eq_2, o_eq_int, o_ne_int, isNone.eq_1, isNone.eq_2, o_isN, o_notN, o_isB.eq_1, o_isB.eq_2, o_notB.eq_1, o_notB.eq_2, o_neg.eq_1, o_neg.eq_2, kOf.eq_1, kOf.eq_2, c_e, c_and, c_or, c_not, e_and, e_or, e_not, e_if, e_ch, a_nil, a_cons, isDraw.eq_1, isDraw.eq_2, a_draw, e_tup, listOf.eq_1, listOf.eq_2, f_op, f_lst, e_call, oOf.eq_1, oOf.eq_2, o_ix.eq_1, o_ix.eq_2, o_ix.eq_3, iOf.eq_1, iOf.eq_2, p_none, p_some, o_sl.eq_1, o_sl.eq_2, o_sl.eq_3, e_sl, o_len.eq_1, o_len.eq_2, o_len.eq_3, o_len.eq_4, o_abs.eq_1, o_abs.eq_2, o_int.eq_1, o_int.eq_2, o_int.eq_3, isTy.eq_1, isTy.eq_2, isTy.eq_3, isTy.eq_4, isTy.eq_5, isTy.eq_6, isTy.eq_7, o_isin, o_tuple.eq_1, o_tuple.eq_2, o_tuple.eq_3, seqQ.eq_1, seqQ.eq_2, seqQ.eq_3, f_list, someOf.eq_1, someOf.eq_2, o_sum, o_maxS, o_minS, o_all.eq_1, o_all.eq_2, o_any.eq_1, o_any.eq_2, o_max.eq_1, o_max.eq_2, o_min.eq_1, o_min.eq_2, o_min3.eq_1, o_min3.eq_2, e_op3, o_repr, i_seq, nOf.eq_1, nOf.eq_2, i_rng1, i_rng2, i_rngD, rgOf.eq_1, rgOf.eq_2, i_rngV, i_num, i_zip2, i_zip, i_enum, g_n, g_nil.eq_1, g_nil.eq_2, g_cons.eq_1, g_cons.eq_2, g_tup.eq_1, g_tup.eq_2, wipeE.eq_1, wipeE.eq_2, f_lc, c_yes, s_nil, s_seq, s_brk, s_cnt, s_set, s_own, s_rng, s_unp, s_par, s_if, s_ret, s_ex, frzA.eq_1, frzA.eq_2, frzA.eq_3, frz, s_frz, ownOf.eq_1, ownOf.eq_2, s_app, s_insert, o_rev.eq_1, o_rev.eq_2, nstOf.eq_1, nstOf.eq_2, b_nix, s_sub2, s_app2, lcN.eq_1, lcN.eq_2, s_nst, s_sub, popQ, s_pop, s_popS, tup2.eq_1, tup2.eq_2, sub1, s_swp, sub2, s_swp2, f_lrng, s_for, isScr.eq_1, isScr.eq_2, s_draw, s_raise, strQ.eq_1, strQ.eq_2, intQ.eq_1, intQ.eq_2, s_raiseR, only, exM.eq_1, exM.eq_2, exM.eq_3, s_tryM, exMR.eq_1, exMR.eq_2, exMR.eq_3, s_tryMR, F_angle, startL.eq_1, startL.eq_2, startL.eq_3, start, List.set_cons_zero, List.set_cons_succ, List.getElem?_cons_zero, List.getElem?_cons_succ, List.length_cons, List.length_nil, List.cons_append, List.nil_append, List.replicate, if_true, if_false, Bool.false_eq_true, Bool.true_and, Bool.false_and, Bool.and_true, Bool.and_false, Bool.not_true, Bool.not_false, Bool.or_true, Bool.or_false, Bool.true_or, Bool.false_or, true_and, and_true, ite_self, reduceCtorEq, forL, lcL, Int.zero_add, at_tR (show i < s.length by omega), at_mD (show i < m.length by rw [M.len]; omega), tR, at_tR (show j < (rw_ m i).length by omega)]
      exact p_times (hB _ (gt_mem (by omega))) (M.sz m1 (gt_mem (by omega))) (by omega) hP
    · have e : (upTo 0 n).map (zF fun z => rD (gt s z.toNat * gt (rw_ m z.toNat) j)) = ((List.range n).map fun i => gt s i * gt (rw_ m i) j).map rD := by
        rw [upTo_eq, List.map_map, List.map_map]
        refine List.map_congr_left fun j _ => ?_
        simp [Function.comp, zF]
      rw [List.nil_append, e]
      refine p_total true _ (B := B + 10) (fun q hq => ?_) ?_ hP
      · obtain ⟨i, hi, rfl⟩ := List.mem_map.mp hq
        rw [List.mem_range] at hi
        have m1 := rw_mem (m := m) (i := i) (by rw [M.len]; omega)
        exact sz_mul (hB _ (gt_mem (by omega))) (M.sz m1 (gt_mem (by rw [(M.row _ m1).len]; omega)))
      · rw [List.length_map, List.length_range]
        exact Nat.le_trans (Nat.add_le_add_left (Nat.mul_le_mul_right _ M.hi) 1) hb
  · have e : (upTo 0 n).map (zF fun z => rD (sumR n fun i => gt s i * gt (rw_ m i) z.toNat)) = (step n m s).map rD := by
      rw [upTo_eq, List.map_map, step, List.map_map]
      refine List.map_congr_left fun j _ => ?_
      simp [Function.comp, zF]
    rw [List.nil_append, e]
    exact hQ
def asHigh (n : Nat) (a b : List Rat) : Bool := (List.range (n - 1)).all fun t => !decide (P b (t + 1) < P a (t + 1))
theorem asHigh_iff {n : Nat} {a b : List Rat} : asHigh n a b = true ↔ ∀ k, 1 ≤ k → k < n → P a k ≤ P b k := by
  unfold asHigh
  rw [List.all_eq_true]
  constructor
  · intro h k h1 h2
    have := h (k - 1) (List.mem_range.mpr (by omega))
    rw [show k - 1 + 1 = k by omega] at this
    simp at this
    exact Rat.not_lt.mp this
  · intro h t ht
    rw [List.mem_range] at ht
    have := h (t + 1) (by omega) (by omega)
    simp
    exact Rat.not_lt.mpr this
theorem p_law_times_raw {q : Rat} {c d : Int} {B : Nat} {Q : D → Prop} {x : EX} (hq : sz B q) (hc : c.natAbs < 2 ^ 10) (hd : d.natAbs < 2 ^ 10) (hB : B ≤ 8000) (d0 : d ≠ 0) (h : Q (rD (q * Rat.divInt c d))) : c_law_times [rD q, .tuple [.int c, .int d]] Q x := by
  refine ⟨rfl, ?_⟩
  have d1 : (q.den : Int).natAbs < 2 ^ B := by rw [Int.natAbs_natCast]; exact hq.2
  have m1 := mulOk_of hq.1 hc (by omega)
  have m3 := mulOk_of d1 hd (by omega)
  have hq0 : (q.den : Int) ≠ 0 := by have := q.den_pos; omega
  simp [T_law_times, rD, at_, m1, m3]
  refine p_law_ratio (B := B + 10) _ _ (Int.mul_ne_zero hq0 d0) (abs_mul_lt d1 hd) (by omega) ?_
  have e : q * Rat.divInt c d = Rat.divInt (q.num * c) (q.den * d) := by
    conv => lhs; rw [show q = Rat.divInt q.num q.den from (Rat.mkRat_self q).symm]
    rw [Rat.divInt_mul_divInt]
  rwa [e] at h
theorem P_set {l : List Rat} {i : Nat} (v : Rat) (k : Nat) (h : i < l.length) : P (l.set i v) k = P l k + (if i < k then v - gt l i else 0) := by
  unfold P
  rw [List.take_set]
  by_cases hk : i < k
  · rw [if_pos hk, sum_set _ _ _ (by rw [List.length_take]; omega), List.getElem_take]
    have : l[i] = gt l i := by
      have := gt_lt h
      rw [List.getElem?_eq_getElem h] at this
      exact Option.some.inj this
    rw [this]
  · rw [if_neg hk, List.set_eq_of_length_le (by rw [List.length_take]; omega), Rat.add_zero]
theorem P_all (l : List Rat) : P l l.length = l.sum := by unfold P; rw [List.take_length]
theorem gt_set {l : List Rat} {i : Nat} (v : Rat) (j : Nat) (h : i < l.length) : gt (l.set i v) j = if j = i then v else gt l j := by
  unfold gt
  rw [List.getD_eq_getElem?_getD, List.getD_eq_getElem?_getD, List.getElem?_set]
  by_cases h' : i = j
  · subst h'; simp [h]
  · rw [if_neg h', if_neg (fun e => h' e.symm)]
theorem raise_ok {n : Nat} {r : List Rat} {i j : Nat} {p : Rat} (S : Shares n r) (hi : i < n) (hij : i ≤ j) (hj : j < n) (p0 : 0 ≤ p) (p1 : p ≤ gt r i) :
    Shares n ((r.set i (gt r i + -p)).set j (gt (r.set i (gt r i + -p)) j + p)) ∧ ∀ k, P ((r.set i (gt r i + -p)).set j (gt (r.set i (gt r i + -p)) j + p)) k ≤ P r k := by
  have hl := S.len
  have key : ∀ k, P ((r.set i (gt r i + -p)).set j (gt (r.set i (gt r i + -p)) j + p)) k = P r k + (if i < k then -p else 0) + (if j < k then p else 0) := by
    intro k
    rw [P_set _ _ (by rw [List.length_set]; omega), P_set _ _ (by omega)]
    congr 1
    · congr 1
      split <;> grind
    · split <;> grind
  have pg : ∀ q ∈ r.set i (gt r i + -p), 0 ≤ q := fun q hq => by
    rcases List.mem_or_eq_of_mem_set hq with hq | rfl
    · exact S.pos q hq
    · grind
  refine ⟨⟨by simp [hl], fun q hq => ?_, ?_⟩, fun k => ?_⟩
  · rcases List.mem_or_eq_of_mem_set hq with hq | rfl
    · exact pg q hq
    · have := pg _ (gt_mem (r := r.set i (gt r i + -p)) (i := j) (by rw [List.length_set]; omega))
      grind
  · have := key n
    have e : P ((r.set i (gt r i + -p)).set j (gt (r.set i (gt r i + -p)) j + p)) n = ((r.set i (gt r i + -p)).set j (gt (r.set i (gt r i + -p)) j + p)).sum := by
      rw [← P_all, List.length_set, List.length_set, hl]
    have e2 : P r n = 1 := by rw [← hl, P_all, S.sum]
    rw [← e, this, e2, if_pos hi, if_pos hj]
    grind
  · rw [key k]
    split
    · split <;> grind
    · rw [if_neg (by omega)]; grind

def prB (B : Nat) : D → Bool
  | .tuple [.int a, .int b] => decide (a.natAbs < 2 ^ B) && decide (b.natAbs < 2 ^ B)
  | _ => true
def rowB (B : Nat) : D → Bool
  | .tuple ds => ds.all (prB B)
  | _ => true
def tabB (B : Nat) : D → Bool
  | .tuple rows => rows.all (rowB B)
  | _ => true
theorem small_of {B : Nat} {d : D} (h : rowB B d = true) : small B d := by
  cases d with
  | tuple ds =>
    intro d hd q e
    have := List.all_eq_true.mp h d hd
    subst e
    simp only [prB, rD, Bool.and_eq_true, decide_eq_true_eq, Int.natAbs_natCast] at this
    exact this
  | _ => trivial
theorem small2_of {B : Nat} {d : D} (h : tabB B d = true) : small2 B d := by
  cases d with
  | tuple rows => exact fun row hr => small_of (List.all_eq_true.mp h row hr)
  | _ => trivial
theorem small_row {n : Nat} {m : List (List Rat)} (M : Moves n m) {r : List Rat} (hr : r ∈ m) : small 10 (tR r) := M.small (tR r) (List.mem_map.mpr ⟨r, hr, rfl⟩)
/-- no table of moves, with small numbers -/
def odd (d : D) : Prop := isMovesB d = false ∧ small2 10 d
theorem fits_len {qs : List D} {n : Nat} (h : qs.length ≠ n) : fitsB (.tuple qs) n = false := by simp [fitsB, fitsL, h]
theorem bad_row {rows : List D} {row : D} (hr : row ∈ rows) (h : fitsB row rows.length = false) : isMovesB (.tuple rows) = false := by
  have : (rows.all fun row => fitsB row rows.length && densOk row) = false := by
    rw [List.all_eq_false]
    exact ⟨row, hr, by simp [h]⟩
  simp only [isMovesB, this, Bool.and_false]
theorem odd_c {d : D} (h1 : isMovesB d = false) (h2 : tabB 10 d = true) : odd d := ⟨h1, small2_of h2⟩
theorem odd_cut {n : Nat} {m : List (List Rat)} (M : Moves n m) : odd (.tuple ((m.map tR).drop 1)) := by
  have hlo := M.lo
  refine ⟨?_, fun row hr => M.small row (List.mem_of_mem_drop hr)⟩
  have hl : ((m.map tR).drop 1).length = n - 1 := by simp [M.len]
  obtain ⟨r, hr⟩ : ∃ r, r ∈ (m.map tR).drop 1 := ⟨_, List.getElem_mem (show 0 < ((m.map tR).drop 1).length by omega)⟩
  refine bad_row hr ?_
  obtain ⟨r', hr', rfl⟩ := List.mem_map.mp (List.mem_of_mem_drop hr)
  exact fits_len (by rw [List.length_map, (M.row r' hr').len, hl]; omega)
theorem odd_more {n : Nat} {m : List (List Rat)} (M : Moves n m) : odd (.tuple (m.map tR ++ (m.map tR).take 1)) := by
  have hlo := M.lo
  have hin : ∀ row ∈ m.map tR ++ (m.map tR).take 1, row ∈ m.map tR := fun row hr => by
    rcases List.mem_append.mp hr with hr | hr
    · exact hr
    · exact List.mem_of_mem_take hr
  refine ⟨?_, fun row hr => M.small row (hin row hr)⟩
  have hl : (m.map tR ++ (m.map tR).take 1).length = n + 1 := by simp [M.len]; omega
  have hr : (m.map tR ++ (m.map tR).take 1)[0]'(by omega) ∈ (m.map tR ++ (m.map tR).take 1) := List.getElem_mem _
  refine bad_row hr ?_
  obtain ⟨r', hr', e⟩ := List.mem_map.mp (hin _ hr)
  rw [← e]
  exact fits_len (by rw [List.length_map, (M.row r' hr').len, hl]; omega)
theorem odd_first {n : Nat} {m : List (List Rat)} (M : Moves n m) {r : List Rat} (hr : r ∈ m) : odd (.tuple (.tuple ((r.map rD).take (n - 1)) :: (m.map tR).drop 1)) := by
  have hlo := M.lo
  have hl : (PyData.tuple ((r.map rD).take (n - 1)) :: (m.map tR).drop 1).length = n := by simp [M.len]; omega
  refine ⟨bad_row List.mem_cons_self ?_, fun row hr' => ?_⟩
  · exact fits_len (by rw [hl, List.length_take, List.length_map, (M.row r hr).len]; omega)
  · rcases List.mem_cons.mp hr' with rfl | hr'
    · exact fun d hd => small_row M hr d (List.mem_of_mem_take hd)
    · exact M.small row (List.mem_of_mem_drop hr')
def hD : D := .tuple [.int 1, .int 2]
theorem p_law_odd_moves {n : Nat} {m : List (List Rat)} (M : Moves n m) {Q : D → Prop} {x : EX} (hQ : ∀ d, odd d → Q d) : c_law_odd_moves [.none, mD m] Q x := by
  refine ⟨rfl, ?_⟩
  have hlo := M.lo
  have hhi := M.hi
  have hl : (m.map tR).length = n := by rw [List.length_map, M.len]
  simp only [T_law_odd_moves]
  refine seq_mid (fun ρ => ρ = [.draw, .val (mD m), .val (.int n), .emp, .emp, .emp]) (fun N hN => ?_) ?_
  · simp -implicitDefEqProofs only [LN, e_c.eq_1, vOf.eq_1, vOf.eq_2, bOf.eq_1, bOf.eq_2, bOf.eq_3, e_v.eq_1, b_v.eq_1, e_f.eq_1, e_op.eq_1, e_un.eq_1, o_add.eq_1, o_add.eq_2, o_add.eq_3, o_add.eq_4, o_add.eq_5, o_sub.eq_1, o_sub.eq_2, o_mul.eq_1, o_mul.eq_2, o_mul.eq_3, o_mul.eq_4, o_fdiv.eq_1, o_fdiv.eq_2, o_mod.eq_1, o_mod.eq_2, o_lt.eq_1, o_lt.eq_2, o_le.eq_1, o_le.eq_2, o_gt.eq_1, o_gt.eq_2, o_ge.eq_1, o_ge.eq_2, o_eq_int, o_ne_int, isNone.eq_1, isNone.eq_2, o_isN.eq_1, o_notN.eq_1, o_isB.eq_1, o_isB.eq_2, o_notB.eq_1, o_notB.eq_2, o_neg.eq_1, o_neg.eq_2, kOf.eq_1, kOf.eq_2, c_e.eq_1, c_and.eq_1, c_or.eq_1, c_not.eq_1, e_and.eq_1, e_or.eq_1, e_not.eq_1, e_if.eq_1, e_ch.eq_1, a_nil.eq_1, a_cons.eq_1, isDraw.eq_1, isDraw.eq_2, a_draw.eq_1, e_tup.eq_1, listOf.eq_1, listOf.eq_2, f_op.eq_1, f_lst.eq_1, e_call.eq_1, oOf.eq_1, oOf.eq_2, o_ix.eq_1, o_ix.eq_2, o_ix.eq_3, iOf.eq_1, iOf.eq_2, p_none.eq_1, p_some.eq_1, o_sl.eq_1, o_sl.eq_2, o_sl.eq_3, e_sl.eq_1, o_len.eq_1, o_len.eq_2, o_len.eq_3, o_len.eq_4, o_abs.eq_1, o_abs.eq_2, o_int.eq_1, o_int.eq_2, o_int.eq_3, isTy.eq_1, isTy.eq_2, isTy.eq_3, isTy.eq_4, isTy.eq_5, isTy.eq_6, isTy.eq_7, o_isin.eq_1, o_tuple.eq_1, o_tuple.eq_2, o_tuple.eq_3, seqQ.eq_1, seqQ.eq_2, seqQ.eq_3, f_list.eq_1, someOf.eq_1, someOf.eq_2, o_sum.eq_1, o_maxS.eq_1, o_minS.eq_1, o_all.eq_1, o_all.eq_2, o_any.eq_1, o_any.eq_2, o_max.eq_1, o_max.eq_2, o_min.eq_1, o_min.eq_2, o_min3.eq_1, o_min3.eq_2, e_op3.eq_1, o_repr.eq_1, i_seq.eq_1, nOf.eq_1, nOf.eq_2, i_rng1.eq_1, i_rng2.eq_1, i_rngD.eq_1, rgOf.eq_1, rgOf.eq_2, i_rngV.eq_1, i_num.eq_1, i_zip2.eq_1, i_zip.eq_1, i_enum.eq_1, g_n.eq_1, g_nil.eq_1, g_nil.eq_2, g_cons.eq_1, g_cons.eq_2, g_tup.eq_1, g_tup.eq_2, wipeE.eq_1, wipeE.eq_2, f_lc.eq_1, c_yes.eq_1, s_nil.eq_1, s_seq.eq_1, s_brk.eq_1, s_cnt.eq_1, s_set.eq_1, s_own.eq_1, s_rng.eq_1, s_unp.eq_1, s_par.eq_1, s_if.eq_1, s_ret.eq_1, s_ex.eq_1, frzA.eq_1, frzA.eq_2, frzA.eq_3, frz.eq_1, s_frz.eq_1, ownOf.eq_1, ownOf.eq_2, s_app.eq_1, s_insert.eq_1, o_rev.eq_1, o_rev.eq_2, nstOf.eq_1, nstOf.eq_2, b_nix.eq_1, s_sub2.eq_1, s_app2.eq_1, lcN.eq_1, lcN.eq_2, s_nst.eq_1, s_sub.eq_1, popQ.eq_1, s_pop.eq_1, s_popS.eq_1, tup2.eq_1, tup2.eq_2, sub1.eq_1, s_swp.eq_1, sub2.eq_1, s_swp2.eq_1, f_lrng.eq_1, s_for.eq_1, isScr.eq_1, isScr.eq_2, s_draw.eq_1, s_raise.eq_1, strQ.eq_1, strQ.eq_2, intQ.eq_1, intQ.eq_2, s_raiseR.eq_1, only.eq_1, exM.eq_1, exM.eq_2, exM.eq_3, s_tryM.eq_1, exMR.eq_1, exMR.eq_2, exMR.eq_3, s_tryMR.eq_1, F_angle.eq_1, startL.eq_1, startL.eq_2, startL.eq_3, start.eq_1, List.set_cons_zero, List.set_cons_succ, List.getElem?_cons_zero, List.getElem?_cons_succ, List.length_cons, List.length_nil, List.cons_append, List.nil_append, List.replicate, if_true, if_false, Bool.false_eq_true, Bool.true_and, Bool.false_and, Bool.and_true, Bool.and_false, Bool.not_true, Bool.not_false, Bool.or_true, Bool.or_false, Bool.true_or, Bool.false_or, true_and, and_true, ite_self, reduceCtorEq, forL, lcL, mD, hl]
    exact hN _ rfl
  rintro ρ rfl
  refine seq_mid (fun ρ => ρ = [.draw, .val (mD m), .val (.int n), .val hD, .emp, .emp]) (fun N hN => ?_) ?_
  · simp -implicitDefEqProofs only [LN, e_c.eq_1, vOf.eq_1, vOf.eq_2, bOf.eq_1, bOf.eq_2, bOf.eq_3, e_v.eq_1, b_v.eq_1, e_f.eq_1, e_op.eq_1, e_un.eq_1, o_add.eq_1, o_add.eq_2, o_add.eq_3, o_add.eq_4, o_add.eq_5, o_sub.eq_1, o_sub.eq_2, o_mul.eq_1, o_mul.eq_2, o_mul.eq_3, o_mul.eq_4, o_fdiv.eq_1, o_fdiv.eq_2, o_mod.eq_1, o_mod.eq_2, o_lt.eq_1, o_lt.eq_2, o_le.eq_1, o_le.eq_2, o_gt.eq_1, o_gt.eq_2, o_ge.eq_1, o_ge.eq_2, o_eq_int, o_ne_int, isNone.eq_1, isNone.eq_2, o_isN.eq_1, o_notN.eq_1, o_isB.eq_1, o_isB.eq_2, o_notB.eq_1, o_notB.eq_2, o_neg.eq_1, o_neg.eq_2, kOf.eq_1, kOf.eq_2, c_e.eq_1, c_and.eq_1, c_or.eq_1, c_not.eq_1, e_and.eq_1, e_or.eq_1, e_not.eq_1, e_if.eq_1, e_ch.eq_1, a_nil.eq_1, a_cons.eq_1, isDraw.eq_1, isDraw.eq_2, a_draw.eq_1, e_tup.eq_1, listOf.eq_1, listOf.eq_2, f_op.eq_1, f_lst.eq_1, e_call.eq_1, oOf.eq_1, oOf.eq_2, o_ix.eq_1, o_ix.eq_2, o_ix.eq_3, iOf.eq_1, iOf.eq_2, p_none.eq_1, p_some.eq_1, o_sl.eq_1, o_sl.eq_2, o_sl.eq_3, e_sl.eq_1, o_len.eq_1, o_len.eq_2, o_len.eq_3, o_len.eq_4, o_abs.eq_1, o_abs.eq_2, o_int.eq_1, o_int.eq_2, o_int.eq_3, isTy.eq_1, isTy.eq_2, isTy.eq_3, isTy.eq_4, isTy.eq_5, isTy.eq_6, isTy.eq_7, o_isin.eq_1, o_tuple.eq_1, o_tuple.eq_2, o_tuple.eq_3, seqQ.eq_1, seqQ.eq_2, seqQ.eq_3, f_list.eq_1, someOf.eq_1, someOf.eq_2, o_sum.eq_1, o_maxS.eq_1, o_minS.eq_1, o_all.eq_1, o_all.eq_2, o_any.eq_1, o_any.eq_2, o_max.eq_1, o_max.eq_2, o_min.eq_1, o_min.eq_2, o_min3.eq_1, o_min3.eq_2, e_op3.eq_1, o_repr.eq_1, i_seq.eq_1, nOf.eq_1, nOf.eq_2, i_rng1.eq_1, i_rng2.eq_1, i_rngD.eq_1, rgOf.eq_1, rgOf.eq_2, i_rngV.eq_1, i_num.eq_1, i_zip2.eq_1, i_zip.eq_1, i_enum.eq_1, g_n.eq_1, g_nil.eq_1, g_nil.eq_2, g_cons.eq_1, g_cons.eq_2, g_tup.eq_1, g_tup.eq_2, wipeE.eq_1, wipeE.eq_2, f_lc.eq_1, c_yes.eq_1, s_nil.eq_1, s_seq.eq_1, s_brk.eq_1, s_cnt.eq_1, s_set.eq_1, s_own.eq_1, s_rng.eq_1, s_unp.eq_1, s_par.eq_1, s_if.eq_1, s_ret.eq_1, s_ex.eq_1, frzA.eq_1, frzA.eq_2, frzA.eq_3, frz.eq_1, s_frz.eq_1, ownOf.eq_1, ownOf.eq_2, s_app.eq_1, s_insert.eq_1, o_rev.eq_1, o_rev.eq_2, nstOf.eq_1, nstOf.eq_2, b_nix.eq_1, s_sub2.eq_1, s_app2.eq_1, lcN.eq_1, lcN.eq_2, s_nst.eq_1, s_sub.eq_1, popQ.eq_1, s_pop.eq_1, s_popS.eq_1, tup2.eq_1, tup2.eq_2, sub1.eq_1, s_swp.eq_1, sub2.eq_1, s_swp2.eq_1, f_lrng.eq_1, s_for.eq_1, isScr.eq_1, isScr.eq_2, s_draw.eq_1, s_raise.eq_1, strQ.eq_1, strQ.eq_2, intQ.eq_1, intQ.eq_2, s_raiseR.eq_1, only.eq_1, exM.eq_1, exM.eq_2, exM.eq_3, s_tryM.eq_1, exMR.eq_1, exMR.eq_2, exMR.eq_3, s_tryMR.eq_1, F_angle.eq_1, startL.eq_1, startL.eq_2, startL.eq_3, start.eq_1, List.set_cons_zero, List.set_cons_succ, List.getElem?_cons_zero, List.getElem?_cons_succ, List.length_cons, List.length_nil, List.cons_append, List.nil_append, List.replicate, if_true, if_false, Bool.false_eq_true, Bool.true_and, Bool.false_and, Bool.and_true, Bool.and_false, Bool.not_true, Bool.not_false, Bool.or_true, Bool.or_false, Bool.true_or, Bool.false_or, true_and, and_true, ite_self, reduceCtorEq, forL, lcL]
    exact ⟨by decide, hN _ rfl⟩
  rintro ρ rfl
  let Pm : Nat → Env → Prop := fun b ρ => ∃ L y5, ρ = [.draw, .val (mD m), .val (.int n), .val hD, .own L, y5] ∧ 0 < L.length ∧ L.length ≤ b ∧ ∀ d ∈ L, odd d
  have leN : ∀ {k : Nat}, k ≤ 100 → k ≤ 1000000 := fun h => Nat.le_trans h (by decide)
  refine seq_mid (Pm 9) (fun N hN => ?_) ?_
  · simp -implicitDefEqProofs only [LN, e_c.eq_1, vOf.eq_1, vOf.eq_2, bOf.eq_1, bOf.eq_2, bOf.eq_3, e_v.eq_1, b_v.eq_1, e_f.eq_1, e_op.eq_1, e_un.eq_1, o_add.eq_1, o_add.eq_2, o_add.eq_3, o_add.eq_4, o_add.eq_5, o_sub.eq_1, o_sub.eq_2, o_mul.eq_1, o_mul.eq_2, o_mul.eq_3, o_mul.eq_4, o_fdiv.eq_1, o_fdiv.eq_2, o_mod.eq_1, o_mod.eq_2, o_lt.eq_1, o_lt.eq_2, o_le.eq_1, o_le.eq_2, o_gt.eq_1, o_gt.eq_2, o_ge.eq_1, o_ge.eq_2, o_eq_int, o_ne_int, isNone.eq_1, isNone.eq_2, o_isN.eq_1, o_notN.eq_1, o_isB.eq_1, o_isB.eq_2, o_notB.eq_1, o_notB.eq_2, o_neg.eq_1, o_neg.eq_2, kOf.eq_1, kOf.eq_2, c_e.eq_1, c_and.eq_1, c_or.eq_1, c_not.eq_1, e_and.eq_1, e_or.eq_1, e_not.eq_1, e_if.eq_1, e_ch.eq_1, a_nil.eq_1, a_cons.eq_1, isDraw.eq_1, isDraw.eq_2, a_draw.eq_1, e_tup.eq_1, listOf.eq_1, listOf.eq_2, f_op.eq_1, f_lst.eq_1, e_call.eq_1, oOf.eq_1, oOf.eq_2, o_ix.eq_1, o_ix.eq_2, o_ix.eq_3, iOf.eq_1, iOf.eq_2, p_none.eq_1, p_some.eq_1, o_sl.eq_1, o_sl.eq_2, o_sl.eq_3, e_sl.eq_1, o_len.eq_1, o_len.eq_2, o_len.eq_3, o_len.eq_4, o_abs.eq_1, o_abs.eq_2, o_int.eq_1, o_int.eq_2, o_int.eq_3, isTy.eq_1, isTy.eq_2, isTy.eq_3, isTy.eq_4, isTy.eq_5, isTy.eq_6, isTy.eq_7, o_isin.eq_1, o_tuple.eq_1, o_tuple.eq_2, o_tuple.eq_3, seqQ.eq_1, seqQ.eq_2, seqQ.eq_3, f_list.eq_1, someOf.eq_1, someOf.eq_2, o_sum.eq_1, o_maxS.eq_1, o_minS.eq_1, o_all.eq_1, o_all.eq_2, o_any.eq_1, o_any.eq_2, o_max.eq_1, o_max.eq_2, o_min.eq_1, o_min.eq_2, o_min3.eq_1, o_min3.eq_2, e_op3.eq_1, o_repr.eq_1, i_seq.eq_1, nOf.eq_1, nOf.eq_2, i_rng1.eq_1, i_rng2.eq_1, i_rngD.eq_1, rgOf.eq_1, rgOf.eq_2, i_rngV.eq_1, i_num.eq_1, i_zip2.eq_1, i_zip.eq_1, i_enum.eq_1, g_n.eq_1, g_nil.eq_1, g_nil.eq_2, g_cons.eq_1, g_cons.eq_2, g_tup.eq_1, g_tup.eq_2, wipeE.eq_1, wipeE.eq_2, f_lc.eq_1, c_yes.eq_1, s_nil.eq_1, s_seq.eq_1, s_brk.eq_1, s_cnt.eq_1, s_set.eq_1, s_own.eq_1, s_rng.eq_1, s_unp.eq_1, s_par.eq_1, s_if.eq_1, s_ret.eq_1, s_ex.eq_1, frzA.eq_1, frzA.eq_2, frzA.eq_3, frz.eq_1, s_frz.eq_1, ownOf.eq_1, ownOf.eq_2, s_app.eq_1, s_insert.eq_1, o_rev.eq_1, o_rev.eq_2, nstOf.eq_1, nstOf.eq_2, b_nix.eq_1, s_sub2.eq_1, s_app2.eq_1, lcN.eq_1, lcN.eq_2, s_nst.eq_1, s_sub.eq_1, popQ.eq_1, s_pop.eq_1, s_popS.eq_1, tup2.eq_1, tup2.eq_2, sub1.eq_1, s_swp.eq_1, sub2.eq_1, s_swp2.eq_1, f_lrng.eq_1, s_for.eq_1, isScr.eq_1, isScr.eq_2, s_draw.eq_1, s_raise.eq_1, strQ.eq_1, strQ.eq_2, intQ.eq_1, intQ.eq_2, s_raiseR.eq_1, only.eq_1, exM.eq_1, exM.eq_2, exM.eq_3, s_tryM.eq_1, exMR.eq_1, exMR.eq_2, exMR.eq_3, s_tryMR.eq_1, F_angle.eq_1, startL.eq_1, startL.eq_2, startL.eq_3, start.eq_1, List.set_cons_zero, List.set_cons_succ, List.getElem?_cons_zero, List.getElem?_cons_succ, List.length_cons, List.length_nil, List.cons_append, List.nil_append, List.replicate, if_true, if_false, Bool.false_eq_true, Bool.true_and, Bool.false_and, Bool.and_true, Bool.and_false, Bool.not_true, Bool.not_false, Bool.or_true, Bool.or_false, Bool.true_or, Bool.false_or, true_and, and_true, ite_self, reduceCtorEq, forL, lcL, mD]
    refine ⟨by decide, by rw [hl]; omega, ?_⟩
    refine lc_fun toL _ [] (fun d hd Pp hP => ?_) ?_
    · obtain ⟨r, hr, rfl⟩ := List.mem_map.mp hd
      simp -implicitDefEqProofs only [LN, e_c.eq_1, vOf.eq_1, vOf.eq_2, bOf.eq_1, bOf.eq_2, bOf.eq_3, e_v.eq_1, b_v.eq_1, e_f.eq_1, e_op.eq_1, e_un.eq_1, o_add.eq_1, o_add.eq_2, o_add.eq_3, o_add.eq_4, o_add.eq_5, o_sub.eq_1, o_sub.eq_2, o_mul.eq_1, o_mul.eq_2, o_mul.eq_3, o_mul.eq_4, o_fdiv.eq_1, o_fdiv.eq_2, o_mod.eq_1, o_mod.eq_2, o_lt.eq_1, o_lt.eq_2, o_le.eq_1, o_le.eq_2, o_gt.eq_1, o_gt.eq_2, o_ge.eq_1, o_ge.eq_2, o_eq_int, o_ne_int, isNone.eq_1, isNone.eq_2, o_isN.eq_1, o_notN.eq_1, o_isB.eq_1, o_isB.eq_2, o_notB.eq_1, o_notB.eq_2, o_neg.eq_1, o_neg.eq_2, kOf.eq_1, kOf.eq_2, c_e.eq_1, c_and.eq_1, c_or.eq_1, c_not.eq_1, e_and.eq_1, e_or.eq_1, e_not.eq_1, e_if.eq_1, e_ch.eq_1, a_nil.eq_1, a_cons.eq_1, isDraw.eq_1, isDraw.eq_2, a_draw.eq_1, e_tup.eq_1, listOf.eq_1, listOf.eq_2, f_op.eq_1, f_lst.eq_1, e_call.eq_1, oOf.eq_1, oOf.eq_2, o_ix.eq_1, o_ix.eq_2, o_ix.eq_3, iOf.eq_1, iOf.eq_2, p_none.eq_1, p_some.eq_1, o_sl.eq_1, o_sl.eq_2, o_sl.eq_3, e_sl.eq_1, o_len.eq_1, o_len.eq_2, o_len.eq_3, o_len.eq_4, o_abs.eq_1, o_abs.eq_2, o_int.eq_1, o_int.eq_2, o_int.eq_3, isTy.eq_1, isTy.eq_2, isTy.eq_3, isTy.eq_4, isTy.eq_5, isTy.eq_6, isTy.eq_7, o_isin.eq_1, o_tuple.eq_1, o_tuple.eq_2, o_tuple.eq_3, seqQ.eq_1, seqQ.eq_2, seqQ.eq_3, f_list.eq_1, someOf.eq_1, someOf.eq_2, o_sum.eq_1, o_maxS.eq_1, o_minS.eq_1, o_all.eq_1, o_all.eq_2, o_any.eq_1, o_any.eq_2, o_max.eq_1, o_max.eq_2, o_min.eq_1, o_min.eq_2, o_min3.eq_1, o_min3.eq_2, e_op3.eq_1, o_repr.eq_1, i_seq.eq_1, nOf.eq_1, nOf.eq_2, i_rng1.eq_1, i_rng2.eq_1, i_rngD.eq_1, rgOf.eq_1, rgOf.eq_2, i_rngV.eq_1, i_num.eq_1, i_zip2.eq_1, i_zip.eq_1, i_enum.eq_1, g_n.eq_1, g_nil.eq_1, g_nil.eq_2, g_cons.eq_1, g_cons.eq_2, g_tup.eq_1, g_tup.eq_2, wipeE.eq_1, wipeE.eq_2, f_lc.eq_1, c_yes.eq_1, s_nil.eq_1, s_seq.eq_1, s_brk.eq_1, s_cnt.eq_1, s_set.eq_1, s_own.eq_1, s_rng.eq_1, s_unp.eq_1, s_par.eq_1, s_if.eq_1, s_ret.eq_1, s_ex.eq_1, frzA.eq_1, frzA.eq_2, frzA.eq_3, frz.eq_1, s_frz.eq_1, ownOf.eq_1, ownOf.eq_2, s_app.eq_1, s_insert.eq_1, o_rev.eq_1, o_rev.eq_2, nstOf.eq_1, nstOf.eq_2, b_nix.eq_1, s_sub2.eq_1, s_app2.eq_1, lcN.eq_1, lcN.eq_2, s_nst.eq_1, s_sub.eq_1, popQ.eq_1, s_pop.eq_1, s_popS.eq_1, tup2.eq_1, tup2.eq_2, sub1.eq_1, s_swp.eq_1, sub2.eq_1, s_swp2.eq_1, f_lrng.eq_1, s_for.eq_1, isScr.eq_1, isScr.eq_2, s_draw.eq_1, s_raise.eq_1, strQ.eq_1, strQ.eq_2, intQ.eq_1, intQ.eq_2, s_raiseR.eq_1, only.eq_1, exM.eq_1, exM.eq_2, exM.eq_3, s_tryM.eq_1, exMR.eq_1, exMR.eq_2, exMR.eq_3, s_tryMR.eq_1, F_angle.eq_1, startL.eq_1, startL.eq_2, startL.eq_3, start.eq_1, List.set_cons_zero, List.set_cons_succ, List.getElem?_cons_zero, List.getElem?_cons_succ, List.length_cons, List.length_nil, List.cons_append, List.nil_append, List.replicate, if_true, if_false, Bool.false_eq_true, Bool.true_and, Bool.false_and, Bool.and_true, Bool.and_false, Bool.not_true, Bool.not_false, Bool.or_true, Bool.or_false, Bool.true_or, Bool.false_or, true_and, and_true, ite_self, reduceCtorEq, forL, lcL, tR, toL] at hP ⊢
      exact hP
    rw [List.nil_append]
    simp only [cut_take1, cut_drop1 _ (show 1 ≤ (m.map tR).length by omega), LN, e_c.eq_1, vOf.eq_1, vOf.eq_2, bOf.eq_1, bOf.eq_2, bOf.eq_3, e_v.eq_1, b_v.eq_1, e_f.eq_1, e_op.eq_1, e_un.eq_1, o_add.eq_1, o_add.eq_2, o_add.eq_3, o_add.eq_4, o_add.eq_5, o_sub.eq_1, o_sub.eq_2, o_mul.eq_1, o_mul.eq_2, o_mul.eq_3, o_mul.eq_4, o_fdiv.eq_1, o_fdiv.eq_2, o_mod.eq_1, o_mod.eq_2, o_lt.eq_1, o_lt.eq_2, o_le.eq_1, o_le.eq_2, o_gt.eq_1, o_gt.eq_2, o_ge.eq_1, o_ge.eq_2, o_eq_int, o_ne_int, isNone.eq_1, isNone.eq_2, o_isN.eq_1, o_notN.eq_1, o_isB.eq_1, o_isB.eq_2, o_notB.eq_1, o_notB.eq_2, o_neg.eq_1, o_neg.eq_2, kOf.eq_1, kOf.eq_2, c_e.eq_1, c_and.eq_1, c_or.eq_1, c_not.eq_1, e_and.eq_1, e_or.eq_1, e_not.eq_1, e_if.eq_1, e_ch.eq_1, a_nil.eq_1, a_cons.eq_1, isDraw.eq_1, isDraw.eq_2, a_draw.eq_1, e_tup.eq_1, listOf.eq_1, listOf.eq_2, f_op.eq_1, f_lst.eq_1, e_call.eq_1, oOf.eq_1, oOf.eq_2, o_ix.eq_1, o_ix.eq_2, o_ix.eq_3, iOf.eq_1, iOf.eq_2, p_none.eq_1, p_some.eq_1, o_sl.eq_1, o_sl.eq_2, o_sl.eq_3, e_sl.eq_1, o_len.eq_1, o_len.eq_2, o_len.eq_3, o_len.eq_4, o_abs.eq_1, o_abs.eq_2, o_int.eq_1, o_int.eq_2, o_int.eq_3, isTy.eq_1, isTy.eq_2, isTy.eq_3, isTy.eq_4, isTy.eq_5, isTy.eq_6, isTy.eq_7, o_isin.eq_1, o_tuple.eq_1, o_tuple.eq_2, o_tuple.eq_3, seqQ.eq_1, seqQ.eq_2, seqQ.eq_3, f_list.eq_1, someOf.eq_1, someOf.eq_2, o_sum.eq_1, o_maxS.eq_1, o_minS.eq_1, o_all.eq_1, o_all.eq_2, o_any.eq_1, o_any.eq_2, o_max.eq_1, o_max.eq_2, o_min.eq_1, o_min.eq_2, o_min3.eq_1, o_min3.eq_2, e_op3.eq_1, o_repr.eq_1, i_seq.eq_1, nOf.eq_1, nOf.eq_2, i_rng1.eq_1, i_rng2.eq_1, i_rngD.eq_1, rgOf.eq_1, rgOf.eq_2, i_rngV.eq_1, i_num.eq_1, i_zip2.eq_1, i_zip.eq_1, i_enum.eq_1, g_n.eq_1, g_nil.eq_1, g_nil.eq_2, g_cons.eq_1, g_cons.eq_2, g_tup.eq_1, g_tup.eq_2, wipeE.eq_1, wipeE.eq_2, f_lc.eq_1, c_yes.eq_1, s_nil.eq_1, s_seq.eq_1, s_brk.eq_1, s_cnt.eq_1, s_set.eq_1, s_own.eq_1, s_rng.eq_1, s_unp.eq_1, s_par.eq_1, s_if.eq_1, s_ret.eq_1, s_ex.eq_1, frzA.eq_1, frzA.eq_2, frzA.eq_3, frz.eq_1, s_frz.eq_1, ownOf.eq_1, ownOf.eq_2, s_app.eq_1, s_insert.eq_1, o_rev.eq_1, o_rev.eq_2, nstOf.eq_1, nstOf.eq_2, b_nix.eq_1, s_sub2.eq_1, s_app2.eq_1, lcN.eq_1, lcN.eq_2, s_nst.eq_1, s_sub.eq_1, popQ.eq_1, s_pop.eq_1, s_popS.eq_1, tup2.eq_1, tup2.eq_2, sub1.eq_1, s_swp.eq_1, sub2.eq_1, s_swp2.eq_1, f_lrng.eq_1, s_for.eq_1, isScr.eq_1, isScr.eq_2, s_draw.eq_1, s_raise.eq_1, strQ.eq_1, strQ.eq_2, intQ.eq_1, intQ.eq_2, s_raiseR.eq_1, only.eq_1, exM.eq_1, exM.eq_2, exM.eq_3, s_tryM.eq_1, exMR.eq_1, exMR.eq_2, exMR.eq_3, s_tryMR.eq_1, F_angle.eq_1, startL.eq_1, startL.eq_2, startL.eq_3, start.eq_1, List.set_cons_zero, List.set_cons_succ, List.getElem?_cons_zero, List.getElem?_cons_succ, List.length_cons, List.length_nil, List.cons_append, List.nil_append, List.replicate, if_true, if_false, Bool.false_eq_true, Bool.true_and, Bool.false_and, Bool.and_true, Bool.and_false, Bool.not_true, Bool.not_false, Bool.or_true, Bool.or_false, Bool.true_or, Bool.false_or, true_and, and_true, ite_self, reduceCtorEq, forL, lcL]
    refine ⟨by rw [hl, List.length_take]; omega, by decide, by decide, by decide, by decide, by decide, by decide, by decide, by decide, by decide, by decide, hN _ ⟨_, _, rfl, by simp, by simp, ?_⟩⟩
    simp only [List.forall_mem_cons]
    exact ⟨odd_c rfl rfl, odd_c rfl rfl, ⟨rfl, trivial⟩, ⟨rfl, trivial⟩, odd_cut M, odd_more M, odd_c (by decide +kernel) (by decide +kernel), odd_c (by decide +kernel) (by decide +kernel), odd_c (by decide +kernel) (by decide +kernel), fun _ h => by cases h⟩
  rintro ρ ⟨L, y5, rfl, l0, l1, hL⟩
  refine seq_mid (Pm 15) (fun N hN => ?_) ?_
  · simp -implicitDefEqProofs only [LN, e_c.eq_1, vOf.eq_1, vOf.eq_2, bOf.eq_1, bOf.eq_2, bOf.eq_3, e_v.eq_1, b_v.eq_1, e_f.eq_1, e_op.eq_1, e_un.eq_1, o_add.eq_1, o_add.eq_2, o_add.eq_3, o_add.eq_4, o_add.eq_5, o_sub.eq_1, o_sub.eq_2, o_mul.eq_1, o_mul.eq_2, o_mul.eq_3, o_mul.eq_4, o_fdiv.eq_1, o_fdiv.eq_2, o_mod.eq_1, o_mod.eq_2, o_lt.eq_1, o_lt.eq_2, o_le.eq_1, o_le.eq_2, o_gt.eq_1, o_gt.eq_2, o_ge.eq_1, o_ge.eq_2, o_eq_int, o_ne_int, isNone.eq_1, isNone.eq_2, o_isN.eq_1, o_notN.eq_1, o_isB.eq_1, o_isB.eq_2, o_notB.eq_1, o_notB.eq_2, o_neg.eq_1, o_neg.eq_2, kOf.eq_1, kOf.eq_2, c_e.eq_1, c_and.eq_1, c_or.eq_1, c_not.eq_1, e_and.eq_1, e_or.eq_1, e_not.eq_1, e_if.eq_1, e_ch.eq_1, a_nil.eq_1, a_cons.eq_1, isDraw.eq_1, isDraw.eq_2, a_draw.eq_1, e_tup.eq_1, listOf.eq_1, listOf.eq_2, f_op.eq_1, f_lst.eq_1, e_call.eq_1, oOf.eq_1, oOf.eq_2, o_ix.eq_1, o_ix.eq_2, o_ix.eq_3, iOf.eq_1, iOf.eq_2, p_none.eq_1, p_some.eq_1, o_sl.eq_1, o_sl.eq_2, o_sl.eq_3, e_sl.eq_1, o_len.eq_1, o_len.eq_2, o_len.eq_3, o_len.eq_4, o_abs.eq_1, o_abs.eq_2, o_int.eq_1, o_int.eq_2, o_int.eq_3, isTy.eq_1, isTy.eq_2, isTy.eq_3, isTy.eq_4, isTy.eq_5, isTy.eq_6, isTy.eq_7, o_isin.eq_1, o_tuple.eq_1, o_tuple.eq_2, o_tuple.eq_3, seqQ.eq_1, seqQ.eq_2, seqQ.eq_3, f_list.eq_1, someOf.eq_1, someOf.eq_2, o_sum.eq_1, o_maxS.eq_1, o_minS.eq_1, o_all.eq_1, o_all.eq_2, o_any.eq_1, o_any.eq_2, o_max.eq_1, o_max.eq_2, o_min.eq_1, o_min.eq_2, o_min3.eq_1, o_min3.eq_2, e_op3.eq_1, o_repr.eq_1, i_seq.eq_1, nOf.eq_1, nOf.eq_2, i_rng1.eq_1, i_rng2.eq_1, i_rngD.eq_1, rgOf.eq_1, rgOf.eq_2, i_rngV.eq_1, i_num.eq_1, i_zip2.eq_1, i_zip.eq_1, i_enum.eq_1, g_n.eq_1, g_nil.eq_1, g_nil.eq_2, g_cons.eq_1, g_cons.eq_2, g_tup.eq_1, g_tup.eq_2, wipeE.eq_1, wipeE.eq_2, f_lc.eq_1, c_yes.eq_1, s_nil.eq_1, s_seq.eq_1, s_brk.eq_1, s_cnt.eq_1, s_set.eq_1, s_own.eq_1, s_rng.eq_1, s_unp.eq_1, s_par.eq_1, s_if.eq_1, s_ret.eq_1, s_ex.eq_1, frzA.eq_1, frzA.eq_2, frzA.eq_3, frz.eq_1, s_frz.eq_1, ownOf.eq_1, ownOf.eq_2, s_app.eq_1, s_insert.eq_1, o_rev.eq_1, o_rev.eq_2, nstOf.eq_1, nstOf.eq_2, b_nix.eq_1, s_sub2.eq_1, s_app2.eq_1, lcN.eq_1, lcN.eq_2, s_nst.eq_1, s_sub.eq_1, popQ.eq_1, s_pop.eq_1, s_popS.eq_1, tup2.eq_1, tup2.eq_2, sub1.eq_1, s_swp.eq_1, sub2.eq_1, s_swp2.eq_1, f_lrng.eq_1, s_for.eq_1, isScr.eq_1, isScr.eq_2, s_draw.eq_1, s_raise.eq_1, strQ.eq_1, strQ.eq_2, intQ.eq_1, intQ.eq_2, s_raiseR.eq_1, only.eq_1, exM.eq_1, exM.eq_2, exM.eq_3, s_tryM.eq_1, exMR.eq_1, exMR.eq_2, exMR.eq_3, s_tryMR.eq_1, F_angle.eq_1, startL.eq_1, startL.eq_2, startL.eq_3, start.eq_1, List.set_cons_zero, List.set_cons_succ, List.getElem?_cons_zero, List.getElem?_cons_succ, List.length_cons, List.length_nil, List.cons_append, List.nil_append, List.replicate, if_true, if_false, Bool.false_eq_true, Bool.true_and, Bool.false_and, Bool.and_true, Bool.and_false, Bool.not_true, Bool.not_false, Bool.or_true, Bool.or_false, Bool.true_or, Bool.false_or, true_and, and_true, ite_self, reduceCtorEq, forL, lcL]
    refine ⟨by decide, by decide, by decide, by decide, by decide, by decide, by decide, by decide, by decide, by decide, by decide, by decide, by decide, by decide, by decide, by decide, by decide, by decide, by decide, by decide, by decide, by decide, by decide, by omega, hN _ ⟨_, _, rfl, by simp, by simp; omega, all_app hL ?_⟩⟩
    · simp only [List.forall_mem_cons]
      exact ⟨odd_c (by decide +kernel) (by decide +kernel), odd_c (by decide +kernel) (by decide +kernel), odd_c (by decide +kernel) (by decide +kernel), odd_c (by decide +kernel) (by decide +kernel), odd_c (by decide +kernel) (by decide +kernel), odd_c (by decide +kernel) (by decide +kernel), fun _ h => by cases h⟩
  rintro ρ ⟨L, y5, rfl, l0, l1, hL⟩
  refine seq_mid (Pm 18) (fun N hN => ?_) ?_
  · have e0 : at_ (m.map tR) 0 = some (tR (rw_ m 0)) := at_mD (i := 0) (by rw [M.len]; omega)
    have e1 : ∀ xs : List D, cut xs none (some ((n : Int) - 1)) = xs.take (n - 1) := fun xs => by rw [show (n : Int) - 1 = ((n - 1 : Nat) : Int) by omega, cut_take]
    simp -implicitDefEqProofs only [LN, e_c.eq_1, vOf.eq_1, vOf.eq_2, bOf.eq_1, bOf.eq_2, bOf.eq_3, e_v.eq_1, b_v.eq_1, e_f.eq_1, e_op.eq_1, e_un.eq_1, o_add.eq_1, o_add.eq_2, o_add.eq_3, o_add.eq_4, o_add.eq_5, o_sub.eq_1, o_sub.eq_2, o_mul.eq_1, o_mul.eq_2, o_mul.eq_3, o_mul.eq_4, o_fdiv.eq_1, o_fdiv.eq_2, o_mod.eq_1, o_mod.eq_2, o_lt.eq_1, o_lt.eq_2, o_le.eq_1, o_le.eq_2, o_gt.eq_1, o_gt.eq_2, o_ge.eq_1, o_ge.eq_2, o_eq_int, o_ne_int, isNone.eq_1, isNone.eq_2, o_isN.eq_1, o_notN.eq_1, o_isB.eq_1, o_isB.eq_2, o_notB.eq_1, o_notB.eq_2, o_neg.eq_1, o_neg.eq_2, kOf.eq_1, kOf.eq_2, c_e.eq_1, c_and.eq_1, c_or.eq_1, c_not.eq_1, e_and.eq_1, e_or.eq_1, e_not.eq_1, e_if.eq_1, e_ch.eq_1, a_nil.eq_1, a_cons.eq_1, isDraw.eq_1, isDraw.eq_2, a_draw.eq_1, e_tup.eq_1, listOf.eq_1, listOf.eq_2, f_op.eq_1, f_lst.eq_1, e_call.eq_1, oOf.eq_1, oOf.eq_2, o_ix.eq_1, o_ix.eq_2, o_ix.eq_3, iOf.eq_1, iOf.eq_2, p_none.eq_1, p_some.eq_1, o_sl.eq_1, o_sl.eq_2, o_sl.eq_3, e_sl.eq_1, o_len.eq_1, o_len.eq_2, o_len.eq_3, o_len.eq_4, o_abs.eq_1, o_abs.eq_2, o_int.eq_1, o_int.eq_2, o_int.eq_3, isTy.eq_1, isTy.eq_2, isTy.eq_3, isTy.eq_4, isTy.eq_5, isTy.eq_6, isTy.eq_7, o_isin.eq_1, o_tuple.eq_1, o_tuple.eq_2, o_tuple.eq_3, seqQ.eq_1, seqQ.eq_2, seqQ.eq_3, f_list.eq_1, someOf.eq_1, someOf.eq_2, o_sum.eq_1, o_maxS.eq_1, o_minS.eq_1, o_all.eq_1, o_all.eq_2, o_any.eq_1, o_any.eq_2, o_max.eq_1, o_max.eq_2, o_min.eq_1, o_min.eq_2, o_min3.eq_1, o_min3.eq_2, e_op3.eq_1, o_repr.eq_1, i_seq.eq_1, nOf.eq_1, nOf.eq_2, i_rng1.eq_1, i_rng2.eq_1, i_rngD.eq_1, rgOf.eq_1, rgOf.eq_2, i_rngV.eq_1, i_num.eq_1, i_zip2.eq_1, i_zip.eq_1, i_enum.eq_1, g_n.eq_1, g_nil.eq_1, g_nil.eq_2, g_cons.eq_1, g_cons.eq_2, g_tup.eq_1, g_tup.eq_2, wipeE.eq_1, wipeE.eq_2, f_lc.eq_1, c_yes.eq_1, s_nil.eq_1, s_seq.eq_1, s_brk.eq_1, s_cnt.eq_1, s_set.eq_1, s_own.eq_1, s_rng.eq_1, s_unp.eq_1, s_par.eq_1, s_if.eq_1, s_ret.eq_1, s_ex.eq_1, frzA.eq_1, frzA.eq_2, frzA.eq_3, frz.eq_1, s_frz.eq_1, ownOf.eq_1, ownOf.eq_2, s_app.eq_1, s_insert.eq_1, o_rev.eq_1, o_rev.eq_2, nstOf.eq_1, nstOf.eq_2, b_nix.eq_1, s_sub2.eq_1, s_app2.eq_1, lcN.eq_1, lcN.eq_2, s_nst.eq_1, s_sub.eq_1, popQ.eq_1, s_pop.eq_1, s_popS.eq_1, tup2.eq_1, tup2.eq_2, sub1.eq_1, s_swp.eq_1, sub2.eq_1, s_swp2.eq_1, f_lrng.eq_1, s_for.eq_1, isScr.eq_1, isScr.eq_2, s_draw.eq_1, s_raise.eq_1, strQ.eq_1, strQ.eq_2, intQ.eq_1, intQ.eq_2, s_raiseR.eq_1, only.eq_1, exM.eq_1, exM.eq_2, exM.eq_3, s_tryM.eq_1, exMR.eq_1, exMR.eq_2, exMR.eq_3, s_tryMR.eq_1, F_angle.eq_1, startL.eq_1, startL.eq_2, startL.eq_3, start.eq_1, List.set_cons_zero, List.set_cons_succ, List.getElem?_cons_zero, List.getElem?_cons_succ, List.length_cons, List.length_nil, List.cons_append, List.nil_append, List.replicate, if_true, if_false, Bool.false_eq_true, Bool.true_and, Bool.false_and, Bool.and_true, Bool.and_false, Bool.not_true, Bool.not_false, Bool.or_true, Bool.or_false, Bool.true_or, Bool.false_or, true_and, and_true, ite_self, reduceCtorEq, forL, lcL, mD, e0, e1, tR, cut_drop1 _ (show 1 ≤ (m.map tR).length by omega)]
    refine ⟨by decide, by decide, by decide, by decide, by decide, by decide, by rw [List.length_drop]; omega, by decide, by decide, by decide, by decide, ⟨by decide, by decide, by decide⟩, by decide, by decide, ⟨by decide, by decide, by decide⟩, by decide, by omega, hN _ ⟨_, _, rfl, by simp, by simp; omega, all_app hL ?_⟩⟩
    · simp only [List.forall_mem_cons]
      exact ⟨odd_c (by decide +kernel) (by decide +kernel), odd_first M (rw_mem (by rw [M.len]; omega)), odd_c (by decide +kernel) (by decide +kernel), fun _ h => by cases h⟩
  rintro ρ ⟨L, y5, rfl, l0, l1, hL⟩
  simp -implicitDefEqProofs only [LN, e_c.eq_1, vOf.eq_1, vOf.eq_2, bOf.eq_1, bOf.eq_2, bOf.eq_3, e_v.eq_1, b_v.eq_1, e_f.eq_1, e_op.eq_1, e_un.eq_1, o_add.eq_1, o_add.eq_2, o_add.eq_3, o_add.eq_4, o_add.eq_5, o_sub.eq_1, o_sub.eq_2, o_mul.eq_1, o_mul.eq_2, o_mul.eq_3, o_mul.eq_4, o_fdiv.eq_1, o_fdiv.eq_2, o_mod.eq_1, o_mod.eq_2, o_lt.eq_1, o_lt.eq_2, o_le.eq_1, o_le.eq_2, o_gt.eq_1, o_gt.eq_2, o_ge.eq_1, o_ge.eq_2, o_eq_int, o_ne_int, isNone.eq_1, isNone.eq_2, o_isN.eq_1, o_notN.eq_1, o_isB.eq_1, o_isB.eq_2, o_notB.eq_1, o_notB.eq_2, o_neg.eq_1, o_neg.eq_2, kOf.eq_1, kOf.eq_2, c_e.eq_1, c_and.eq_1, c_or.eq_1, c_not.eq_1, e_and.eq_1, e_or.eq_1, e_not.eq_1, e_if.eq_1, e_ch.eq_1, a_nil.eq_1, a_cons.eq_1, isDraw.eq_1, isDraw.eq_2, a_draw.eq_1, e_tup.eq_1, listOf.eq_1, listOf.eq_2, f_op.eq_1, f_lst.eq_1, e_call.eq_1, oOf.eq_1, oOf.eq_2, o_ix.eq_1, o_ix.eq_2, o_ix.eq_3, iOf.eq_1, iOf.eq_2, p_none.eq_1, p_some.eq_1, o_sl.eq_1, o_sl.eq_2, o_sl.eq_3, e_sl.eq_1, o_len.eq_1, o_len.eq_2, o_len.eq_3, o_len.eq_4, o_abs.eq_1, o_abs.eq_2, o_int.eq_1, o_int.eq_2, o_int.eq_3, isTy.eq_1, isTy.eq_2, isTy.eq_3, isTy.eq_4, isTy.eq_5, isTy.eq_6, isTy.eq_7, o_isin.eq_1, o_tuple.eq_1, o_tuple.eq_2, o_tuple.eq_3, seqQ.eq_1, seqQ.eq_2, seqQ.eq_3, f_list.eq_1, someOf.eq_1, someOf.eq_2, o_sum.eq_1, o_maxS.eq_1, o_minS.eq_1, o_all.eq_1, o_all.eq_2, o_any.eq_1, o_any.eq_2, o_max.eq_1, o_max.eq_2, o_min.eq_1, o_min.eq_2, o_min3.eq_1, o_min3.eq_2, e_op3.eq_1, o_repr.eq_1, i_seq.eq_1, nOf.eq_1, nOf.eq_2, i_rng1.eq_1, i_rng2.eq_1, i_rngD.eq_1, rgOf.eq_1, rgOf.eq_2, i_rngV.eq_1, i_num.eq_1, i_zip2.eq_1, i_zip.eq_1, i_enum.eq_1, g_n.eq_1, g_nil.eq_1, g_nil.eq_2, g_cons.eq_1, g_cons.eq_2, g_tup.eq_1, g_tup.eq_2, wipeE.eq_1, wipeE.eq_2, f_lc.eq_1, c_yes.eq_1, s_nil.eq_1, s_seq.eq_1, s_brk.eq_1, s_cnt.eq_1, s_set.eq_1, s_own.eq_1, s_rng.eq_1, s_unp.eq_1, s_par.eq_1, s_if.eq_1, s_ret.eq_1, s_ex.eq_1, frzA.eq_1, frzA.eq_2, frzA.eq_3, frz.eq_1, s_frz.eq_1, ownOf.eq_1, ownOf.eq_2, s_app.eq_1, s_insert.eq_1, o_rev.eq_1, o_rev.eq_2, nstOf.eq_1, nstOf.eq_2, b_nix.eq_1, s_sub2.eq_1, s_app2.eq_1, lcN.eq_1, lcN.eq_2, s_nst.eq_1, s_sub.eq_1, popQ.eq_1, s_pop.eq_1, s_popS.eq_1, tup2.eq_1, tup2.eq_2, sub1.eq_1, s_swp.eq_1, sub2.eq_1, s_swp2.eq_1, f_lrng.eq_1, s_for.eq_1, isScr.eq_1, isScr.eq_2, s_draw.eq_1, s_raise.eq_1, strQ.eq_1, strQ.eq_2, intQ.eq_1, intQ.eq_2, s_raiseR.eq_1, only.eq_1, exM.eq_1, exM.eq_2, exM.eq_3, s_tryM.eq_1, exMR.eq_1, exMR.eq_2, exMR.eq_3, s_tryMR.eq_1, F_angle.eq_1, startL.eq_1, startL.eq_2, startL.eq_3, start.eq_1, List.set_cons_zero, List.set_cons_succ, List.getElem?_cons_zero, List.getElem?_cons_succ, List.length_cons, List.length_nil, List.cons_append, List.nil_append, List.replicate, if_true, if_false, Bool.false_eq_true, Bool.true_and, Bool.false_and, Bool.and_true, Bool.and_false, Bool.not_true, Bool.not_false, Bool.or_true, Bool.or_false, Bool.true_or, Bool.false_or, true_and, and_true, ite_self, reduceCtorEq, forL, lcL]
  exact p_take (by omega) (by omega) fun r r0 r1 => at_all hL r0 r1 hQ

def isSharesB (d : D) : Bool := match d with
  | .tuple ds => (decide (2 ≤ ds.length) && decide (ds.length ≤ 6)) && fitsB (.tuple ds) ds.length
  | _ => false
theorem pre_le {qs : List Rat} (h0 : ∀ q ∈ qs, 0 ≤ q) {pre post : List Rat} (e : qs = pre ++ post) : 0 ≤ pre.sum ∧ pre.sum ≤ qs.sum := by
  have a := (mem_le_sum (l := pre) fun q hq => h0 q (by rw [e]; exact List.mem_append_left _ hq)).1
  have b := (mem_le_sum (l := post) fun q hq => h0 q (by rw [e]; exact List.mem_append_right _ hq)).1
  refine ⟨a, ?_⟩
  rw [e, List.sum_append]; grind
/-- whole numbers of N-th parts, none below zero, in sum at most one: each partial sum is small -/
theorem pre_sz {N S : Nat} (hN : 0 < N) (hS : N < 2 ^ S) {qs : List Rat} (hd : ∀ q ∈ qs, dn N q) (h0 : ∀ q ∈ qs, 0 ≤ q) (h1 : qs.sum ≤ 1) : ∀ pre post, qs = pre ++ post → sz S pre.sum := by
  intro pre post e
  obtain ⟨a, b⟩ := pre_le h0 e
  exact sz_dn hN hS (dn_sum fun q hq => hd q (by rw [e]; exact List.mem_append_left _ hq)) a (Rat.le_trans b h1)
theorem mem_sz {N S : Nat} (hN : 0 < N) (hS : N < 2 ^ S) {qs : List Rat} (hd : ∀ q ∈ qs, dn N q) (h0 : ∀ q ∈ qs, 0 ≤ q) (h1 : qs.sum ≤ 1) : ∀ q ∈ qs, sz S q := fun q hq =>
  sz_dn hN hS (hd q hq) (h0 q hq) (Rat.le_trans ((mem_le_sum h0).2 q hq) h1)
/-- a common denominator of rows -/
theorem rows_den : ∀ {m : List (List Rat)} {B : Nat}, 0 < B → (∀ r ∈ m, bd B r) → ∃ G : Nat, 0 < G ∧ G ≤ B ^ m.length ∧ ∀ r ∈ m, ∀ q ∈ r, dn G q
  | [], _, _, _ => ⟨1, by decide, by simp, fun _ h => by cases h⟩
  | r :: m, B, hB, h => by
    obtain ⟨G, d0, d1, d2⟩ := rows_den hB fun r hr => h r (List.mem_cons_of_mem _ hr)
    obtain ⟨N, n0, n1, n2⟩ := h r List.mem_cons_self
    have p := Nat.mul_pos n0 d0
    refine ⟨N * G, p, ?_, fun r' hr' q hq => ?_⟩
    · rw [List.length_cons, Nat.pow_succ, Nat.mul_comm N G]
      exact Nat.mul_le_mul d1 n1
    · rcases List.mem_cons.mp hr' with rfl | hr'
      · exact dn_of p (Nat.dvd_trans (n2 q hq) (Nat.dvd_mul_right _ _))
      · exact dn_dvd p (Nat.dvd_mul_left _ _) (d2 r' hr' q hq)
theorem bd_dn {B : Nat} {r : List Rat} (h : bd B r) : ∃ N, 0 < N ∧ N ≤ B ∧ ∀ q ∈ r, dn N q := by
  obtain ⟨N, h0, h1, h2⟩ := h
  exact ⟨N, h0, h1, fun q hq => dn_of h0 (h2 q hq)⟩
theorem gt_rw0 {n : Nat} {m : List (List Rat)} (M : Moves n m) {i j : Nat} (hi : i < n) (hj : j < n) : gt (rw_ m i) j ∈ rw_ m i ∧ rw_ m i ∈ m := by
  have m1 := rw_mem (m := m) (i := i) (by rw [M.len]; omega)
  exact ⟨gt_mem (by rw [(M.row _ m1).len]; omega), m1⟩
theorem step_shares {n : Nat} {m : List (List Rat)} {s : List Rat} (M : Moves n m) (S : Shares n s) : Shares n (step n m s) := by
  refine ⟨step_len n m s, fun q hq => ?_, ?_⟩
  · obtain ⟨j, hj, rfl⟩ := List.mem_map.mp hq
    rw [List.mem_range] at hj
    refine (mem_le_sum fun q hq => ?_).1
    obtain ⟨i, hi, rfl⟩ := List.mem_map.mp hq
    rw [List.mem_range] at hi
    obtain ⟨g1, g2⟩ := gt_rw0 M hi hj
    exact Rat.mul_nonneg (S.pos _ (gt_mem (by rw [S.len]; omega))) ((M.row _ g2).pos _ g1)
  · have e : (step n m s).sum = sumR n fun j => sumR n fun i => gt s i * gt (rw_ m i) j := rfl
    rw [e, sumR_swap (fun i j => gt s i * gt (rw_ m i) j) n n]
    have e2 : (sumR n fun i => sumR n fun j => gt s i * gt (rw_ m i) j) = sumR n (gt s) := by
      refine sumR_congr fun i hi => ?_
      have m1 := rw_mem (m := m) (i := i) (by rw [M.len]; omega)
      have R := M.row _ m1
      rw [sumR_mul (gt s i) (gt (rw_ m i)) n]
      have : sumR n (gt (rw_ m i)) = 1 := by rw [← R.sum, all_sum (rw_ m i), R.len]
      rw [this, Rat.mul_one]
    rw [e2]
    have := all_sum s
    rw [S.len] at this
    rw [← this, S.sum]
theorem step_dn {n : Nat} {m : List (List Rat)} {s : List Rat} {N G : Nat} (M : Moves n m) (hl : s.length = n) (hs : ∀ q ∈ s, dn N q) (hm : ∀ r ∈ m, ∀ q ∈ r, dn G q) : ∀ q ∈ step n m s, dn (N * G) q := by
  intro q hq
  obtain ⟨j, hj, rfl⟩ := List.mem_map.mp hq
  rw [List.mem_range] at hj
  refine dn_sum fun q hq => ?_
  obtain ⟨i, hi, rfl⟩ := List.mem_map.mp hq
  rw [List.mem_range] at hi
  obtain ⟨g1, g2⟩ := gt_rw0 M hi hj
  exact dn_mul (hs _ (gt_mem (by omega))) (hm _ g2 _ g1)
/-- the parts of one entry of a step -/
theorem step_parts {n : Nat} {m : List (List Rat)} {s : List Rat} {N G S : Nat} (M : Moves n m) (hs : Shares n s) (hN : ∀ q ∈ s, dn N q) (hm : ∀ r ∈ m, ∀ q ∈ r, dn G q) (h0 : 0 < N * G) (hS : N * G < 2 ^ S) {j : Nat} (hj : j < n) :
    (∀ q ∈ (List.range n).map fun i => gt s i * gt (rw_ m i) j, sz S q) ∧ ∀ pre post, ((List.range n).map fun i => gt s i * gt (rw_ m i) j) = pre ++ post → sz S pre.sum := by
  have ss := step_shares M hs
  have hj' : sumR n (fun i => gt s i * gt (rw_ m i) j) ∈ step n m s := List.mem_map.mpr ⟨j, List.mem_range.mpr hj, rfl⟩
  have h1 := ss.le_one hj'
  have hd : ∀ q ∈ (List.range n).map fun i => gt s i * gt (rw_ m i) j, dn (N * G) q := fun q hq => by
    obtain ⟨i, hi, rfl⟩ := List.mem_map.mp hq
    rw [List.mem_range] at hi
    obtain ⟨g1, g2⟩ := gt_rw0 M hi hj
    exact dn_mul (hN _ (gt_mem (by rw [hs.len]; omega))) (hm _ g2 _ g1)
  have hp : ∀ q ∈ (List.range n).map fun i => gt s i * gt (rw_ m i) j, 0 ≤ q := fun q hq => by
    obtain ⟨i, hi, rfl⟩ := List.mem_map.mp hq
    rw [List.mem_range] at hi
    obtain ⟨g1, g2⟩ := gt_rw0 M hi hj
    exact Rat.mul_nonneg (hs.pos _ (gt_mem (by rw [hs.len]; omega))) ((M.row _ g2).pos _ g1)
  exact ⟨mem_sz h0 hS hd hp h1, pre_sz h0 hS hd hp h1⟩
theorem shares_sz {n : Nat} {s : List Rat} {N S : Nat} (hs : Shares n s) (hN : ∀ q ∈ s, dn N q) (h0 : 0 < N) (hS : N < 2 ^ S) : ∀ q ∈ s, sz S q :=
  mem_sz h0 hS hN hs.pos (by rw [hs.sum]; exact Rat.le_refl)
theorem fac_lt {N G S : Nat} (h0 : 0 < N * G) (hS : N * G < 2 ^ S) : 0 < N ∧ N < 2 ^ S := by
  have a := Nat.pos_of_mul_pos_right h0
  have b := Nat.pos_of_mul_pos_left h0
  have : N * 1 ≤ N * G := Nat.mul_le_mul_left _ (by omega)
  omega
theorem p_steppedS {n : Nat} {m : List (List Rat)} {s : List Rat} {N G S : Nat} (M : Moves n m) (hs : Shares n s) (hN : ∀ q ∈ s, dn N q) (hm : ∀ r ∈ m, ∀ q ∈ r, dn G q) (h0 : 0 < N * G) (hS : N * G < 2 ^ S) (h4 : S ≤ 4000) {Q : D → Prop} {x : EX} (hQ : Q (tR (step n m s))) : c_stepped [mD m, tR s] Q x := by
  refine ⟨rfl, ?_⟩
  have hlo := M.lo
  have hhi := M.hi
  have hl := hs.len
  have fl := fac_lt h0 hS
  have hB := shares_sz hs hN fl.1 fl.2
  simp only [LN, e_c, vOf.eq_1, vOf.eq_2, bOf.eq_1, bOf.eq_2, bOf.eq_3, e_v, b_v, e_f, e_op, e_un, o_add.eq_1, o_add.eq_2, o_add.eq_3, o_add.eq_4, o_add.eq_5, o_sub.eq_1, o_sub.eq_2, o_mul.eq_1, o_mul.eq_2, o_mul.eq_3, o_mul.eq_4, o_fdiv.eq_1, o_fdiv.eq_2, o_mod.eq_1, o_mod.eq_2, o_lt.eq_1, o_lt.eq_2, o_le.eq_1, o_le.eq_2, o_gt.eq_1, o_gt.eq_2, o_ge.eq_1, o_ge.eq_2, o_eq_int, o_ne_int, isNone.eq_1, isNone.eq_2, o_isN, o_notN, o_isB.eq_1, o_isB.eq_2, o_notB.eq_1, o_notB.eq_2, o_neg.eq_1, o_neg.eq_2, kOf.eq_1, kOf.eq_2, c_e, c_and, c_or, c_not, e_and, e_or, e_not, e_if, e_ch, a_nil, a_cons, isDraw.eq_1, isDraw.eq_2, a_draw, e_tup, listOf.eq_1, listOf.eq_2, f_op, f_lst, e_call, oOf.eq_1, oOf.eq_2, o_ix.eq_1, o_ix.eq_2, o_ix.eq_3, iOf.eq_1, iOf.eq_2, p_none, p_some, o_sl.eq_1, o_sl.eq_2, o_sl.eq_3, e_sl, o_len.eq_1, o_len.eq_2, o_len.eq_3, o_len.eq_4, o_abs.eq_1, o_abs.eq_2, o_int.eq_1, o_int.eq_2, o_int.eq_3, isTy.eq_1, isTy.eq_2, isTy.eq_3, isTy.eq_4, isTy.eq_5, isTy.eq_6, isTy.eq_7, o_isin, o_tuple.eq_1, o_tuple.eq_2, o_tuple.eq_3, seqQ.eq_1, seqQ.eq_2, seqQ.eq_3, f_list, someOf.eq_1, someOf.eq_2, o_sum, o_maxS, o_minS, o_all.eq_1, o_all.eq_2, o_any.eq_1, o_any.eq_2, o_max.eq_1, o_max.eq_2, o_min.eq_1, o_min.eq_2, o_min3.eq_1, o_min3.eq_2, e_op3, o_repr, i_seq, nOf.eq_1, nOf.eq_2, i_rng1, i_rng2, i_rngD, rgOf.eq_1, rgOf.eq_2, i_rngV, i_num, i_zip2, i_zip, i_enum, g_n, g_nil.eq_1, g_nil.eq_2, g_cons.eq_1, g_cons.eq_2, g_tup.eq_1, g_tup.eq_2, wipeE.eq_1, wipeE.eq_2, f_lc, c_yes, s_nil, s_seq, s_brk, s_cnt, s_set, s_own, s_rng, s_unp, s_par, s_if, s_ret, s_ex, frzA.eq_1, frzA.eq_2, frzA.eq_3, frz, s_frz, ownOf.eq_1, ownOf.eq_2, s_app, s_insert, o_rev.eq_1, o_rev.eq_2, nstOf.eq_1, nstOf.eq_2, b_nix, s_sub2, s_app2, lcN.eq_1, lcN.eq_2, s_nst, s_sub, popQ, s_pop, s_popS, tup2.eq_1, tup2.eq_2, sub1, s_swp, sub2, s_swp2, f_lrng, s_for, isScr.eq_1, isScr.eq_2, s_draw, s_raise, strQ.eq_1, strQ.eq_2, intQ.eq_1, intQ.eq_2, s_raiseR, only, exM.eq_1, exM.eq_2, exM.eq_3, s_tryM, exMR.eq_1, exMR.eq_2, exMR.eq_3, s_tryMR, F_angle, startL.eq_1, startL.eq_2, startL.eq_3, start, List.set_cons_zero, List.set_cons_succ, List.getElem?_cons_zero, List.getElem?_cons_succ, List.length_cons, List.length_nil, List.cons_append, List.nil_append, List.replicate, if_true, if_false, Bool.false_eq_true, Bool.true_and, Bool.false_and, Bool.and_true, Bool.and_false, Bool.not_true, Bool.not_false, Bool.or_true, Bool.or_false, Bool.true_or, Bool.false_or, true_and, and_true, ite_self, reduceCtorEq, forL, lcL, T_stepped, mD, tR, List.length_map, M.len, Int.sub_zero, Int.toNat_natCast]
  refine ⟨by unfold rOk; omega, ⟨⟨by unfold rOk; omega, by unfold rOk; omega⟩, by rw [upTo_eq]; simp; omega, ?_⟩⟩
  refine lc_fun (zF fun z => rD (sumR n fun i => gt s i * gt (rw_ m i) z.toNat)) _ [] (fun d hd Pp hP => ?_) ?_
  · rw [upTo_eq] at hd
    obtain ⟨j, hj, rfl⟩ := List.mem_map.mp hd
    rw [List.mem_range] at hj
    simp only [zF, Int.zero_add, Int.toNat_natCast] at hP
    simp only [LN, e_c, vOf.eq_1, vOf.eq_2, bOf.eq_1, bOf.eq_2, bOf.eq_3, e_v, b_v, e_f, e_op, e_un, o_add.eq_1, o_add.eq_2, o_add.eq_3, o_add.eq_4, o_add.eq_5, o_sub.eq_1, o_sub.eq_2, o_mul.eq_1, o_mul.eq_2, o_mul.eq_3, o_mul.eq_4, o_fdiv.eq_1, o_fdiv.eq_2, o_mod.eq_1, o_mod.eq_2, o_lt.eq_1, o_lt.eq_2, o_le.eq_1, o_le.eq_2, o_gt.eq_1, o_gt.eq_2, o_ge.eq_1, o_ge.eq_2, o_eq_int, o_ne_int, isNone.eq_1, isNone.eq_2, o_isN, o_notN, o_isB.eq_1, o_isB.eq_2, o_notB.eq_1, o_notB.eq_2, o_neg.eq_1, o_neg.eq_2, kOf.eq_1, kOf.eq_2, c_e, c_and, c_or, c_not, e_and, e_or, e_not, e_if, e_ch, a_nil, a_cons, isDraw.eq_1, isDraw.eq_2, a_draw, e_tup, listOf.eq_1, listOf.eq_2, f_op, f_lst, e_call, oOf.eq_1, oOf.eq_2, o_ix.eq_1, o_ix.eq_2, o_ix.eq_3, iOf.eq_1, iOf.eq_2, p_none, p_some, o_sl.eq_1, o_sl.eq_2, o_sl.eq_3, e_sl, o_len.eq_1, o_len.eq_2, o_len.eq_3, o_len.eq_4, o_abs.eq_1, o_abs.eq_2, o_int.eq_1, o_int.eq_2, o_int.eq_3, isTy.eq_1, isTy.eq_2, isTy.eq_3, isTy.eq_4, isTy.eq_5, isTy.eq_6, isTy.eq_7, o_isin, o_tuple.eq_1, o_tuple.eq_2, o_tuple.eq_3, seqQ.eq_1, seqQ.eq_2, seqQ.eq_3, f_list, someOf.eq_1, someOf.eq_2, o_sum, o_maxS, o_minS, o_all.eq_1, o_all.eq_2, o_any.eq_1, o_any.eq_2, o_max.eq_1, o_max.eq_2, o_min.eq_1, o_min.eq_2, o_min3.eq_1, o_min3.eq_2, e_op3, o_repr, i_seq, nOf.eq_1, nOf.eq_2, i_rng1, i_rng2, i_rngD, rgOf.eq_1, rgOf.eq_2, i_rngV, i_num, i_zip2, i_zip, i_enum, g_n, g_nil.eq_1, g_nil.eq_2, g_cons.eq_1, g_cons.eq_2, g_tup.eq_1, g_tup.eq_2, wipeE.eq_1, wipeE.eq_2, f_lc, c_yes, s_nil, s_seq, s_brk, s_cnt, s_set, s_own, s_rng, s_unp, s_par, s_if, s_ret, s_ex, frzA.eq_1, frzA.eq_2, frzA.eq_3, frz, s_frz, ownOf.eq_1, ownOf.eq_2, s_app, s_insert, o_rev.eq_1, o_rev.eq_2, nstOf.eq_1, nstOf.eq_2, b_nix, s_sub2, s_app2, lcN.eq_1, lcN.eq_2, s_nst, s_sub, popQ, s_pop, s_popS, tup2.eq_1, tup2.eq_2, sub1, s_swp, sub2, s_swp2, f_lrng, s_for, isScr.eq_1, isScr.eq_2, s_draw, s_raise, strQ.eq_1, strQ.eq_2, intQ.eq_1, intQ.eq_2, s_raiseR, only, exM.eq_1, exM.eq_2, exM.eq_3, s_tryM, exMR.eq_1, exMR.eq_2, exMR.eq_3, s_tryMR, F_angle, startL.eq_1, startL.eq_2, startL.eq_3, start, List.set_cons_zero, List.set_cons_succ, List.getElem?_cons_zero, List.getElem?_cons_succ, List.length_cons, List.length_nil, List.cons_append, List.nil_append, List.replicate, if_true, if_false, Bool.false_eq_true, Bool.true_and, Bool.false_and, Bool.and_true, Bool.and_false, Bool.not_true, Bool.not_false, Bool.or_true, Bool.or_false, Bool.true_or, Bool.false_or, true_and, and_true, ite_self, reduceCtorEq, forL, lcL, Int.zero_add, Int.sub_zero, Int.toNat_natCast]
    refine ⟨⟨by unfold rOk; omega, by unfold rOk; omega⟩, by rw [upTo_eq]; simp; omega, ?_⟩
    refine lc_fun (zF fun z => rD (gt s z.toNat * gt (rw_ m z.toNat) j)) _ [] (fun d hd Pp hP => ?_) ?_
    · rw [upTo_eq] at hd
      obtain ⟨i, hi, rfl⟩ := List.mem_map.mp hd
      rw [List.mem_range] at hi
      simp only [zF, Int.zero_add, Int.toNat_natCast] at hP
      have m1 := rw_mem (m := m) (i := i) (by rw [M.len]; omega)
      have l1 := (M.row _ m1).len
      simp only [LN, e_c, vOf.eq_1, vOf.eq_2, bOf.eq_1, bOf.eq_2, bOf.eq_3, e_v, b_v, e_f, e_op, e_un, o_add.eq_1, o_add.eq_2, o_add.eq_3, o_add.eq_4, o_add.eq_5, o_sub.eq_1, o_sub.eq_2, o_mul.eq_1, o_mul.eq_2, o_mul.eq_3, o_mul.eq_4, o_fdiv.eq_1, o_fdiv.eq_2, o_mod.eq_1, o_mod.eq_2, o_lt.eq_1, o_lt.eq_2, o_le.eq_1, o_le.eq_2, o_gt.eq_1, o_gt.eq_2, o_ge.eq_1, o_ge.eq_2, o_eq_int, o_ne_int, isNone.eq_1, isNone.eq_2, o_isN, o_notN, o_isB.eq_1, o_isB.eq_2, o_notB.eq_1, o_notB.eq_2, o_neg.eq_1, o_neg.eq_2, kOf.eq_1, kOf.eq_2, c_e, c_and, c_or, c_not, e_and, e_or, e_not, e_if, e_ch, a_nil, a_cons, isDraw.eq_1, isDraw.eq_2, a_draw, e_tup, listOf.eq_1, listOf.eq_2, f_op, f_lst, e_call, oOf.eq_1, oOf.eq_2, o_ix.eq_1, o_ix.eq_2, o_ix.eq_3, iOf.eq_1, iOf.eq_2, p_none, p_some, o_sl.eq_1, o_sl.eq_2, o_sl.eq_3, e_sl, o_len.eq_1, o_len.eq_2, o_len.eq_3, o_len.eq_4, o_abs.eq_1, o_abs.eq_2, o_int.eq_1, o_int.eq_2, o_int.eq_3, isTy.eq_1, isTy.eq_2, isTy.eq_3, isTy.eq_4, isTy.eq_5, isTy.eq_6, isTy.eq_7, o_isin, o_tuple.eq_1, o_tuple.eq_2, o_tuple.eq_3, seqQ.eq_1, seqQ.eq_2, seqQ.eq_3, f_list, someOf.eq_1, someOf.eq_2, o_sum, o_maxS, o_minS, o_all.eq_1, o_all.eq_2, o_any.eq_1, o_any.eq_2, o_max.eq_1, o_max.eq_2, o_min.eq_1, o_min.eq_2, o_min3.eq_1, o_min3.eq_2, e_op3, o_repr, i_seq, nOf.eq_1, nOf.eq_2, i_rng1, i_rng2, i_rngD, rgOf.eq_1, rgOf.eq_2, i_rngV, i_num, i_zip2, i_zip, i_enum, g_n, g_nil.eq_1, g_nil.eq_2, g_cons.eq_1, g_cons.eq_2, g_tup.eq_1, g_tup.eq_2, wipeE.eq_1, wipeE.eq_2, f_lc, c_yes, s_nil, s_seq, s_brk, s_cnt, s_set, s_own, s_rng, s_unp, s_par, s_if, s_ret, s_ex, frzA.eq_1, frzA.eq_2, frzA.eq_3, frz, s_frz, ownOf.eq_1, ownOf.eq_2, s_app, s_insert, o_rev.eq_1, o_rev.eq_2, nstOf.eq_1, nstOf.eq_2, b_nix, s_sub2, s_app2, lcN.eq_1, lcN.eq_2, s_nst, s_sub, popQ, s_pop, s_popS, tup2.eq_1, tup2.eq_2, sub1, s_swp, sub2, s_swp2, f_lrng, s_for, isScr.eq_1, isScr.eq_2, s_draw, s_raise, strQ.eq_1, strQ.eq_2, intQ.eq_1, intQ.eq_2, s_raiseR, only, exM.eq_1, exM.eq_2, exM.eq_3, s_tryM, exMR.eq_1, exMR.eq_2, exMR.eq_3, s_tryMR, F_angle, startL.eq_1, startL.eq_2, startL.eq_3, start, List.set_cons_zero, List.set_cons_succ, List.getElem?_cons_zero, List.getElem?_cons_succ, List.length_cons, List.length_nil, List.cons_append, List.nil_append, List.replicate, if_true, if_false, Bool.false_eq_true, Bool.true_and, Bool.false_and, Bool.and_true, Bool.and_false, Bool.not_true, Bool.not_false, Bool.or_true, Bool.or_false, Bool.true_or, Bool.false_or, true_and, and_true, ite_self, reduceCtorEq, forL, lcL, Int.zero_add, at_tR (show i < s.length by omega), at_mD (show i < m.length by rw [M.len]; omega), tR, at_tR (show j < (rw_ m i).length by omega)]
      exact p_times (hB _ (gt_mem (by omega))) (M.sz m1 (gt_mem (by omega))) (by omega) hP
    · have e : (upTo 0 n).map (zF fun z => rD (gt s z.toNat * gt (rw_ m z.toNat) j)) = ((List.range n).map fun i => gt s i * gt (rw_ m i) j).map rD := by
        rw [upTo_eq, List.map_map, List.map_map]
        refine List.map_congr_left fun j _ => ?_
        simp [Function.comp, zF]
      obtain ⟨s1, s2⟩ := step_parts M hs hN hm h0 hS hj
      rw [List.nil_append, e]
      exact p_totalS true _ (S := S) (B := S) (by omega) s1 s2 hP
  · have e : (upTo 0 n).map (zF fun z => rD (sumR n fun i => gt s i * gt (rw_ m i) z.toNat)) = (step n m s).map rD := by
      rw [upTo_eq, List.map_map, step, List.map_map]
      refine List.map_congr_left fun j _ => ?_
      simp [Function.comp, zF]
    rw [List.nil_append, e]
    exact hQ
theorem p_law_after {n : Nat} {m : List (List Rat)} {s : List Rat} {N G S : Nat} (M : Moves n m) (hs : Shares n s) (hN : ∀ q ∈ s, dn N q) (hm : ∀ r ∈ m, ∀ q ∈ r, dn G q) (h0 : 0 < N * G) (hS : N * G < 2 ^ S) (h4 : S ≤ 4000) {Q : D → Prop} {x : EX} (hQ : Q (tR (step n m s))) : c_law_after [mD m, tR s] Q x := by
  refine ⟨rfl, ?_⟩
  have hlo := M.lo
  have hhi := M.hi
  have hl := hs.len
  have fl := fac_lt h0 hS
  have hB := shares_sz hs hN fl.1 fl.2
  simp only [LN, e_c, vOf.eq_1, vOf.eq_2, bOf.eq_1, bOf.eq_2, bOf.eq_3, e_v, b_v, e_f, e_op, e_un, o_add.eq_1, o_add.eq_2, o_add.eq_3, o_add.eq_4, o_add.eq_5, o_sub.eq_1, o_sub.eq_2, o_mul.eq_1, o_mul.eq_2, o_mul.eq_3, o_mul.eq_4, o_fdiv.eq_1, o_fdiv.eq_2, o_mod.eq_1, o_mod.eq_2, o_lt.eq_1, o_lt.eq_2, o_le.eq_1, o_le.eq_2, o_gt.eq_1, o_gt.eq_2, o_ge.eq_1, o_ge.eq_2, o_eq_int, o_ne_int, isNone.eq_1, isNone.eq_2, o_isN, o_notN, o_isB.eq_1, o_isB.eq_2, o_notB.eq_1, o_notB.eq_2, o_neg.eq_1, o_neg.eq_2, kOf.eq_1, kOf.eq_2, c_e, c_and, c_or, c_not, e_and, e_or, e_not, e_if, e_ch, a_nil, a_cons, isDraw.eq_1, isDraw.eq_2, a_draw, e_tup, listOf.eq_1, listOf.eq_2, f_op, f_lst, e_call, oOf.eq_1, oOf.eq_2, o_ix.eq_1, o_ix.eq_2, o_ix.eq_3, iOf.eq_1, iOf.eq_2, p_none, p_some, o_sl.eq_1, o_sl.eq_2, o_sl.eq_3, e_sl, o_len.eq_1, o_len.eq_2, o_len.eq_3, o_len.eq_4, o_abs.eq_1, o_abs.eq_2, o_int.eq_1, o_int.eq_2, o_int.eq_3, isTy.eq_1, isTy.eq_2, isTy.eq_3, isTy.eq_4, isTy.eq_5, isTy.eq_6, isTy.eq_7, o_isin, o_tuple.eq_1, o_tuple.eq_2, o_tuple.eq_3, seqQ.eq_1, seqQ.eq_2, seqQ.eq_3, f_list, someOf.eq_1, someOf.eq_2, o_sum, o_maxS, o_minS, o_all.eq_1, o_all.eq_2, o_any.eq_1, o_any.eq_2, o_max.eq_1, o_max.eq_2, o_min.eq_1, o_min.eq_2, o_min3.eq_1, o_min3.eq_2, e_op3, o_repr, i_seq, nOf.eq_1, nOf.eq_2, i_rng1, i_rng2, i_rngD, rgOf.eq_1, rgOf.eq_2, i_rngV, i_num, i_zip2, i_zip, i_enum, g_n, g_nil.eq_1, g_nil.eq_2, g_cons.eq_1, g_cons.eq_2, g_tup.eq_1, g_tup.eq_2, wipeE.eq_1, wipeE.eq_2, f_lc, c_yes, s_nil, s_seq, s_brk, s_cnt, s_set, s_own, s_rng, s_unp, s_par, s_if, s_ret, s_ex, frzA.eq_1, frzA.eq_2, frzA.eq_3, frz, s_frz, ownOf.eq_1, ownOf.eq_2, s_app, s_insert, o_rev.eq_1, o_rev.eq_2, nstOf.eq_1, nstOf.eq_2, b_nix, s_sub2, s_app2, lcN.eq_1, lcN.eq_2, s_nst, s_sub, popQ, s_pop, s_popS, tup2.eq_1, tup2.eq_2, sub1, s_swp, sub2, s_swp2, f_lrng, s_for, isScr.eq_1, isScr.eq_2, s_draw, s_raise, strQ.eq_1, strQ.eq_2, intQ.eq_1, intQ.eq_2, s_raiseR, only, exM.eq_1, exM.eq_2, exM.eq_3, s_tryM, exMR.eq_1, exMR.eq_2, exMR.eq_3, s_tryMR, F_angle, startL.eq_1, startL.eq_2, startL.eq_3, start, List.set_cons_zero, List.set_cons_succ, List.getElem?_cons_zero, List.getElem?_cons_succ, List.length_cons, List.length_nil, List.cons_append, List.nil_append, List.replicate, if_true, if_false, Bool.false_eq_true, Bool.true_and, Bool.false_and, Bool.and_true, Bool.and_false, Bool.not_true, Bool.not_false, Bool.or_true, Bool.or_false, Bool.true_or, Bool.false_or, true_and, and_true, ite_self, reduceCtorEq, forL, lcL, T_law_after, mD, tR, List.length_map, M.len, Int.sub_zero, Int.toNat_natCast]
  refine ⟨by unfold rOk; omega, by rw [upTo_eq]; simp; omega, ?_⟩
  refine lc_fun (zF fun z => rD (sumR n fun i => gt s i * gt (rw_ m i) z.toNat)) _ [] (fun d hd Pp hP => ?_) ?_
  · rw [upTo_eq] at hd
    obtain ⟨j, hj, rfl⟩ := List.mem_map.mp hd
    rw [List.mem_range] at hj
    simp only [zF, Int.zero_add, Int.toNat_natCast] at hP
    simp only [LN, e_c, vOf.eq_1, vOf.eq_2, bOf.eq_1, bOf.eq_2, bOf.eq_3, e_v, b_v, e_f, e_op, e_un, o_add.eq_1, o_add.eq_2, o_add.eq_3, o_add.eq_4, o_add.eq_5, o_sub.eq_1, o_sub.eq_2, o_mul.eq_1, o_mul.eq_2, o_mul.eq_3, o_mul.eq_4, o_fdiv.eq_1, o_fdiv.eq_2, o_mod.eq_1, o_mod.eq_2, o_lt.eq_1, o_lt.eq_2, o_le.eq_1, o_le.eq_2, o_gt.eq_1, o_gt.eq_2, o_ge.eq_1, o_ge.eq_2, o_eq_int, o_ne_int, isNone.eq_1, isNone.eq_2, o_isN, o_notN, o_isB.eq_1, o_isB.eq_2, o_notB.eq_1, o_notB.eq_2, o_neg.eq_1, o_neg.eq_2, kOf.eq_1, kOf.eq_2, c_e, c_and, c_or, c_not, e_and, e_or, e_not, e_if, e_ch, a_nil, a_cons, isDraw.eq_1, isDraw.eq_2, a_draw, e_tup, listOf.eq_1, listOf.eq_2, f_op, f_lst, e_call, oOf.eq_1, oOf.eq_2, o_ix.eq_1, o_ix.eq_2, o_ix.eq_3, iOf.eq_1, iOf.eq_2, p_none, p_some, o_sl.eq_1, o_sl.eq_2, o_sl.eq_3, e_sl, o_len.eq_1, o_len.eq_2, o_len.eq_3, o_len.eq_4, o_abs.eq_1, o_abs.eq_2, o_int.eq_1, o_int.eq_2, o_int.eq_3, isTy.eq_1, isTy.eq_2, isTy.eq_3, isTy.eq_4, isTy.eq_5, isTy.eq_6, isTy.eq_7, o_isin, o_tuple.eq_1, o_tuple.eq_2, o_tuple.eq_3, seqQ.eq_1, seqQ.eq_2, seqQ.eq_3, f_list, someOf.eq_1, someOf.eq_2, o_sum, o_maxS, o_minS, o_all.eq_1, o_all.eq_2, o_any.eq_1, o_any.eq_2, o_max.eq_1, o_max.eq_2, o_min.eq_1, o_min.eq_2, o_min3.eq_1, o_min3.eq_2, e_op3, o_repr, i_seq, nOf.eq_1, nOf.eq_2, i_rng1, i_rng2, i_rngD, rgOf.eq_1, rgOf.eq_2, i_rngV, i_num, i_zip2, i_zip, i_enum, g_n, g_nil.eq_1, g_nil.eq_2, g_cons.eq_1, g_cons.eq_2, g_tup.eq_1, g_tup.eq_2, wipeE.eq_1, wipeE.eq_2, f_lc, c_yes, s_nil, s_seq, s_brk, s_cnt, s_set, s_own, s_rng, s_unp, s_par, s_if, s_ret, s_ex, frzA.eq_1, frzA.eq_2, frzA.eq_3, frz, s_frz, ownOf.eq_1, ownOf.eq_2, s_app, s_insert, o_rev.eq_1, o_rev.eq_2, nstOf.eq_1, nstOf.eq_2, b_nix, s_sub2, s_app2, lcN.eq_1, lcN.eq_2, s_nst, s_sub, popQ, s_pop, s_popS, tup2.eq_1, tup2.eq_2, sub1, s_swp, sub2, s_swp2, f_lrng, s_for, isScr.eq_1, isScr.eq_2, s_draw, s_raise, strQ.eq_1, strQ.eq_2, intQ.eq_1, intQ.eq_2, s_raiseR, only, exM.eq_1, exM.eq_2, exM.eq_3, s_tryM, exMR.eq_1, exMR.eq_2, exMR.eq_3, s_tryMR, F_angle, startL.eq_1, startL.eq_2, startL.eq_3, start, List.set_cons_zero, List.set_cons_succ, List.getElem?_cons_zero, List.getElem?_cons_succ, List.length_cons, List.length_nil, List.cons_append, List.nil_append, List.replicate, if_true, if_false, Bool.false_eq_true, Bool.true_and, Bool.false_and, Bool.and_true, Bool.and_false, Bool.not_true, Bool.not_false, Bool.or_true, Bool.or_false, Bool.true_or, Bool.false_or, true_and, and_true, ite_self, reduceCtorEq, forL, lcL, Int.zero_add, Int.sub_zero, Int.toNat_natCast]
    refine ⟨by unfold rOk; omega, by rw [upTo_eq]; simp; omega, ?_⟩
    refine lc_fun (zF fun z => rD (gt s z.toNat * gt (rw_ m z.toNat) j)) _ [] (fun d hd Pp hP => ?_) ?_
    · rw [upTo_eq] at hd
      obtain ⟨i, hi, rfl⟩ := List.mem_map.mp hd
      rw [List.mem_range] at hi
      simp only [zF, Int.zero_add, Int.toNat_natCast] at hP
      have m1 := rw_mem (m := m) (i := i) (by rw [M.len]; omega)
      have l1 := (M.row _ m1).len
      simp only [LN, e_c, vOf.eq_1, vOf.eq_2, bOf.eq_1, bOf.eq_2, bOf.eq_3, e_v, b_v, e_f, e_op, e_un, o_add.eq_1, o_add.eq_2, o_add.eq_3, o_add.eq_4, o_add.eq_5, o_sub.eq_1, o_sub.eq_2, o_mul.eq_1, o_mul.eq_2, o_mul.eq_3, o_mul.eq_4, o_fdiv.eq_1, o_fdiv.eq_2, o_mod.eq_1, o_mod.eq_2, o_lt.eq_1, o_lt.eq_2, o_le.eq_1, o_le.eq_2, o_gt.eq_1, o_gt.eq_2, o_ge.eq_1, o_ge.eq_2, o_eq_int, o_ne_int, isNone.eq_1, isNone.eq_2, o_isN, o_notN, o_isB.eq_1, o_isB.eq_2, o_notB.eq_1, o_notB.eq_2, o_neg.eq_1, o_neg.eq_2, kOf.eq_1, kOf.eq_2, c_e, c_and, c_or, c_not, e_and, e_or, e_not, e_if, e_ch, a_nil, a_cons, isDraw.eq_1, isDraw.eq_2, a_draw, e_tup, listOf.eq_1, listOf.eq_2, f_op, f_lst, e_call, oOf.eq_1, oOf.eq_2, o_ix.eq_1, o_ix.eq_2, o_ix.eq_3, iOf.eq_1, iOf.eq_2, p_none, p_some, o_sl.eq_1, o_sl.eq_2, o_sl.eq_3, e_sl, o_len.eq_1, o_len.eq_2, o_len.eq_3, o_len.eq_4, o_abs.eq_1, o_abs.eq_2, o_int.eq_1, o_int.eq_2, o_int.eq_3, isTy.eq_1, isTy.eq_2, isTy.eq_3, isTy.eq_4, isTy.eq_5, isTy.eq_6, isTy.eq_7, o_isin, o_tuple.eq_1, o_tuple.eq_2, o_tuple.eq_3, seqQ.eq_1, seqQ.eq_2, seqQ.eq_3, f_list, someOf.eq_1, someOf.eq_2, o_sum, o_maxS, o_minS, o_all.eq_1, o_all.eq_2, o_any.eq_1, o_any.eq_2, o_max.eq_1, o_max.eq_2, o_min.eq_1, o_min.eq_2, o_min3.eq_1, o_min3.eq_2, e_op3, o_repr, i_seq, nOf.eq_1, nOf.eq_2, i_rng1, i_rng2, i_rngD, rgOf.eq_1, rgOf.eq_2, i_rngV, i_num, i_zip2, i_zip, i_enum, g_n, g_nil.eq_1, g_nil.eq_2, g_cons.eq_1, g_cons.eq_2, g_tup.eq_1, g_tup.eq_2, wipeE.eq_1, wipeE.eq_2, f_lc, c_yes, s_nil, s_seq, s_brk, s_cnt, s_set, s_own, s_rng, s_unp, s_par, s_if, s_ret, s_ex, frzA.eq_1, frzA.eq_2, frzA.eq_3, frz, s_frz, ownOf.eq_1, ownOf.eq_2, s_app, s_insert, o_rev.eq_1, o_rev.eq_2, nstOf.eq_1, nstOf.eq_2, b_nix, s_sub2, s_app2, lcN.eq_1, lcN.eq_2, s_nst, s_sub, popQ, s_pop, s_popS, tup2.eq_1, tup2.eq_2, sub1, s_swp, sub2, s_swp2, f_lrng, s_for, isScr.eq_1, isScr.eq_2, s_draw, s_raise, strQ.eq_1, strQ.eq_2, intQ.eq_1, intQ.eq_2, s_raiseR, only, exM.eq_1, exM.eq_2, exM.eq_3, s_tryM, exMR.eq_1, exMR.eq_2, exMR.eq_3, s_tryMR, F_angle, startL.eq_1, startL.eq_2, startL.eq_3, start, List.set_cons_zero, List.set_cons_succ, List.getElem?_cons_zero, List.getElem?_cons_succ, List.length_cons, List.length_nil, List.cons_append, List.nil_append, List.replicate, if_true, if_false, Bool.false_eq_true, Bool.true_and, Bool.false_and, Bool.and_true, Bool.and_false, Bool.not_true, Bool.not_false, Bool.or_true, Bool.or_false, Bool.true_or, Bool.false_or, true_and, and_true, ite_self, reduceCtorEq, forL, lcL, Int.zero_add, at_tR (show i < s.length by omega), at_mD (show i < m.length by rw [M.len]; omega), tR, at_tR (show j < (rw_ m i).length by omega)]
      exact p_law_times (hB _ (gt_mem (by omega))) (M.sz m1 (gt_mem (by omega))) (by omega) hP
    · have e : (upTo 0 n).map (zF fun z => rD (gt s z.toNat * gt (rw_ m z.toNat) j)) = ((List.range n).map fun i => gt s i * gt (rw_ m i) j).map rD := by
        rw [upTo_eq, List.map_map, List.map_map]
        refine List.map_congr_left fun j _ => ?_
        simp [Function.comp, zF]
      obtain ⟨s1, s2⟩ := step_parts M hs hN hm h0 hS hj
      rw [List.nil_append, e]
      exact p_law_sumS true _ (S := S) (B := S) (by omega) s1 s2 hP
  · have e : (upTo 0 n).map (zF fun z => rD (sumR n fun i => gt s i * gt (rw_ m i) z.toNat)) = (step n m s).map rD := by
      rw [upTo_eq, List.map_map, step, List.map_map]
      refine List.map_congr_left fun j _ => ?_
      simp [Function.comp, zF]
    rw [List.nil_append, e]
    exact hQ

theorem p_in_size {l : List Rat} {B : Nat} (h : ∀ q ∈ l, sz B q) (hB : B + B ≤ 8999) (hl : l.length ≤ 40) {Q : D → Prop} {x : EX} (hQ : Q (.list ((rsort l).map rD))) : c_in_size [tR l] Q x := by
  (refine ⟨rfl, ?_⟩; unfold T_in_size; simp only [start, startL, List.length_cons, List.length_nil, Nat.reduceAdd, Nat.reduceSub, List.replicate, List.cons_append, List.nil_append])
  refine seq_go fun U hU => ?_
  dsimp!
  refine ⟨by decide, ?_⟩
  (refine hU _ ?_; clear hU U)
  refine seq_go fun U hU => ?_
  dsimp! [tR]
  refine for_pre rD (fun pre ρ => ∃ (found : List Rat) (y2 y3 : Sl), ρ = [.val (.tuple (l.map rD)), .own (found.map rD), y2, y3] ∧ found.Perm pre ∧ found.Pairwise rle) l ?step ⟨[], _, _, rfl, .refl _, .nil⟩ ?fin
  case fin =>
    rintro ρ ⟨found, y2, y3, rfl, h1, h2⟩
    (refine hU _ ?_; clear hU U)
    dsimp!
    rw [rsort_eq h1 h2]
    exact hQ
  case step =>
    rintro pre q post ρ N e ⟨found, y2, y3, rfl, h1, h2⟩ hN
    have hq : sz B q := h q (by rw [e]; simp)
    have hf : ∀ r ∈ found, sz B r := fun r hr => h r (by rw [e]; exact List.mem_append_left _ (h1.mem_iff.mp hr))
    have hfl : found.length < 40 := by
      have := h1.length_eq
      have := congrArg List.length e
      simp only [List.length_append, List.length_cons] at this
      omega
    simp only [g_n.eq_1, List.set_cons_zero, List.set_cons_succ]
    dsimp!
    refine ⟨by rw [List.length_map]; omega, lc_filt rD rD (fun a => decide (a < q)) found [] (fun r hr P N hP hN => ?_) ?_⟩
    · dsimp!
      refine p_below (hf r hr) hq hB ?_
      dsimp!
      split
      · rename_i z; exact hP (by simpa using z)
      · rename_i z; exact hN (by simpa using z)
    · have hc : (found.filter fun a => decide (a < q)).length ≤ found.length := List.length_filter_le ..
      dsimp! [List.nil_append, List.length_map]
      refine ⟨⟨by omega, by omega, by omega⟩, hN _ ⟨insLt found q, .val (rD q), y3, ?_, ?_, insLt_sorted q found h2⟩⟩
      · rw [Int.toNat_natCast]
        unfold insLt
        rw [List.map_append, List.map_append, List.map_take, List.map_drop]
        rfl
      · exact (insLt_perm found q).trans ((h1.cons q).trans (List.perm_append_singleton q pre).symm)
theorem p_law_in_size {l : List Rat} {B : Nat} (h : ∀ q ∈ l, sz B q) (hB : B + B ≤ 8999) (hl : l.length ≤ 40) {Q : D → Prop} {x : EX} (hQ : Q (.list ((rsort l).map rD))) : c_law_in_size [tR l] Q x := by
  (refine ⟨rfl, ?_⟩; unfold T_law_in_size; simp only [start, startL, List.length_cons, List.length_nil, Nat.reduceAdd, Nat.reduceSub, List.replicate, List.cons_append, List.nil_append])
  refine seq_go fun U hU => ?_
  dsimp! [tR]
  (refine hU _ ?_; clear hU U)
  refine seq_go fun U hU => ?_
  dsimp! [List.length_map]
  refine ⟨by unfold rOk; omega, ?_⟩
  rw [Int.toNat_natCast]
  refine for_up (fun k ρ => ∃ (m : List Rat) (y2 y3 : Sl), ρ = [.val (.tuple (l.map rD)), .own (m.map rD), y2, y3] ∧ Bub rle l m k) l.length 0 ?step ⟨l, _, _, rfl, ⟨.refl _, l, [], by simp, .nil, (fun _ _ _ h => nomatch h), .inr (Nat.zero_le _)⟩⟩ ?fin
  case fin =>
    rintro ρ ⟨m, y2, y3, rfl, B'⟩
    (refine hU _ ?_; clear hU U)
    dsimp!
    rw [rsort_eq B'.perm (B'.sorted (Nat.le_refl _))]
    exact hQ
  case step =>
    rintro k ρ N hk ⟨m, y2, y3, rfl, B'⟩ hN
    simp only [g_n.eq_1, List.set_cons_zero, List.set_cons_succ]
    have hml := B'.perm.length_eq
    match m, hml, B' with
    | [], hml, _ => rw [← hml] at hk; cases hk
    | a :: m, hml, B' =>
    have hb := B'.step (fun _ => True) rle_tr rle_tot (fun _ _ => trivial)
    have hperm := B'.perm
    generalize hr : bub rle a m = r at hb
    rw [List.length_cons] at hml
    simp only [s_for, i_rng1, e_op, e_un, e_c, b_v, bOf, List.getElem?_cons_succ, List.getElem?_cons_zero, o_len, List.length_map, List.length_cons, o_sub, nOf]
    have e0 : (((m.length + 1 : Nat) : Int) - 1) = (m.length : Int) := by omega
    rw [e0]
    refine ⟨by unfold rOk; omega, ?_⟩
    rw [Int.toNat_natCast]
    refine for_up (fun i ρ => ∃ (dn : List Rat) (cu : Rat) (re : List Rat) (y2 y3 : Sl), ρ = [.val (.tuple (l.map rD)), .own ((dn ++ cu :: re).map rD), y2, y3] ∧ dn.length = i ∧ dn ++ bub rle cu re = r ∧ (dn ++ cu :: re).Perm l) m.length 0 ?step2 ⟨[], a, m, _, _, rfl, rfl, hr, hperm⟩ ?fin2
    case fin2 =>
      rintro ρ ⟨dn, cu, re, y2, y3, rfl, h1, h2, h3⟩
      have := h3.length_eq
      simp only [List.length_append, List.length_cons] at this
      have hre : re = [] := List.eq_nil_of_length_eq_zero (by omega)
      subst hre
      have e : r = dn ++ [cu] := h2.symm
      refine hN _ ⟨r, _, _, by rw [e], hb⟩
    case step2 =>
      rintro i ρ N2 hi ⟨dn, cu, re, y2, y3, rfl, h1, h2, h3⟩ hN2
      have hlen := h3.length_eq
      simp only [List.length_append, List.length_cons] at hlen
      match re, h2, h3, hlen with
      | [], _, _, hlen => simp at hlen; omega
      | b :: re, h2, h3, hlen =>
      have mem : ∀ p ∈ dn ++ cu :: b :: re, sz B p := fun p hp => h p (h3.mem_iff.mp hp)
      have hcu := mem cu (by simp)
      have hbp := mem b (by simp)
      have g1 : (dn ++ cu :: b :: re)[i]? = some cu := by rw [← h1]; simp
      have g2 : (dn ++ cu :: b :: re)[i + 1]? = some b := by
        rw [List.getElem?_append_right (by omega), show i + 1 - dn.length = 1 by omega]; rfl
      have a1 : at_ ((dn ++ cu :: b :: re).map rD) (i : Int) = some (rD cu) := at_nat (by rw [List.getElem?_map, g1]; rfl)
      have a2 : at_ ((dn ++ cu :: b :: re).map rD) ((i : Int) + 1) = some (rD b) := at_eq (k := i + 1) (by omega) (by rw [List.getElem?_map, g2]; rfl)
      generalize hL : (dn ++ cu :: b :: re) = L at *
      have hLl : L.length = dn.length + 2 + re.length := by rw [← hL]; simp; omega
      simp only [g_n.eq_1, List.set_cons_zero, List.set_cons_succ]
      rw [Int.zero_add]
      refine if_split (decide ¬ rle cu b) (fun Q hQ => ?_) (fun hz => ?_) (fun hz => ?_)
      · dsimp! [a1, a2]
        refine p_law_less hbp hcu hB ?_
        dsimp!
        have e : decide (b < cu) = decide ¬ rle cu b := by
          unfold rle
          rw [decide_eq_decide]
          exact Rat.not_le.symm
        rw [e]
        exact hQ
      · simp only [decide_not, Bool.not_eq_true', decide_eq_false_iff_not] at hz
        have hm : (L.map rD).length = L.length := List.length_map _
        simp only [s_swp]
        dsimp! [a1, a2]
        refine ⟨by decide, ?_⟩
        refine ix_nat rfl (by omega) ?_
        refine ix_nat (k := i + 1) (by simp) (by rw [List.length_set, hm]; omega) ?_
        have e : ((L.map rD).set i (rD b)).set (i + 1) (rD cu) = (dn ++ b :: cu :: re).map rD := by
          rw [← List.map_set, ← List.map_set, ← hL, ← h1]
          congr 1
          rw [List.set_append_right _ _ (Nat.le_refl _), Nat.sub_self, List.set_cons_zero, List.set_append_right _ _ (by omega), show dn.length + 1 - dn.length = 1 by omega]
          rfl
        rw [e]
        refine hN2 _ ⟨dn ++ [b], cu, re, _, _, by rw [List.append_assoc]; rfl, by simp; omega, ?_, ?_⟩
        · rw [← h2, List.append_assoc]
          conv => rhs; unfold bub
          rw [if_neg hz]
          rfl
        · rw [List.append_assoc]
          refine List.Perm.trans ?_ h3
          rw [← hL]
          exact (List.Perm.swap cu b re).append_left dn
      · simp only [decide_not, Bool.not_eq_false', decide_eq_true_eq] at hz
        simp only [s_nil]
        refine hN2 _ ⟨dn ++ [cu], b, re, _, _, by rw [← hL, List.append_assoc]; rfl, by simp; omega, ?_, by rw [List.append_assoc]; rw [← hL] at h3; exact h3⟩
        rw [← h2, List.append_assoc]
        conv => rhs; unfold bub
        rw [if_pos hz]
        rfl
def asEv (x y : List Rat) : Bool := (List.range (x.length - 1)).all fun t => !decide (((rsort x).take (t + 1)).sum < ((rsort y).take (t + 1)).sum)
theorem take_sz {l : List Rat} {B k : Nat} (h : ∀ q ∈ l, sz B q) (hl : l.length ≤ 6) : (∀ q ∈ (rsort l).take k, sz B q) ∧ ((rsort l).take k).length ≤ 6 ∧ sz (1 + 6 * (B + 1)) ((rsort l).take k).sum := by
  have h1 : ∀ q ∈ (rsort l).take k, sz B q := fun q hq => h q ((rsort_perm l).mem_iff.mp (List.mem_of_mem_take hq))
  have h2 : ((rsort l).take k).length ≤ 6 := by rw [List.length_take, (rsort_perm l).length_eq]; omega
  exact ⟨h1, h2, (sz_sum h1).mono (Nat.add_le_add_left (Nat.mul_le_mul_right _ h2) 1)⟩
theorem p_is_as_even {u v : List Rat} {A B : Nat} (hu : ∀ q ∈ u, sz A q) (hv : ∀ q ∈ v, sz B q) (l1 : 1 ≤ u.length) (l6 : u.length ≤ 6) (l7 : v.length ≤ 6) (hAB : (1 + 6 * (A + 1)) + (1 + 6 * (B + 1)) ≤ 8999) {Q : D → Prop} {x : EX} (hQ : Q (.bool (asEv u v))) : c_is_as_even [tR u, tR v] Q x := by
  (refine ⟨rfl, ?_⟩; unfold T_is_as_even; simp only [start, startL, List.length_cons, List.length_nil, Nat.reduceAdd, Nat.reduceSub, List.replicate, List.cons_append, List.nil_append])
  refine seq_go fun U hU => ?_
  dsimp!
  refine p_in_size hu (by omega) (by omega) (p_in_size hv (by omega) (by omega) ?_)
  repeat (with_reducible refine And.intro ?_ ?_; · first | decide | omega | (simp; done) | (simp; omega))
  (refine hU _ ?_; clear hU U)
  dsimp! [List.length_map, (rsort_perm u).length_eq]
  refine ⟨⟨by unfold rOk; omega, by unfold rOk; omega⟩, ?_⟩
  rw [upTo_eq, show ((u.length : Int) - 1).toNat = u.length - 1 by omega]
  refine ⟨by simp; omega, ?_⟩
  refine lc_map (fun k : Nat => .int (1 + (k : Int))) (fun t => .bool (decide (((rsort u).take (t + 1)).sum < ((rsort v).take (t + 1)).sum))) _ [] (fun t ht P hP => ?_) ?_
  · rw [List.mem_range] at ht
    have et : (1 : Int) + (t : Int) = ((t + 1 : Nat) : Int) := by omega
    obtain ⟨a1, a2, a3⟩ := take_sz (k := t + 1) hu l6
    obtain ⟨b1, b2, b3⟩ := take_sz (k := t + 1) hv l7
    rw [et]
    dsimp! [cut_take, ← List.map_take]
    refine p_total true _ a1 (Nat.le_trans (Nat.add_le_add_left (Nat.mul_le_mul_right _ a2) 1) (by omega)) ?_
    refine p_total true _ b1 (Nat.le_trans (Nat.add_le_add_left (Nat.mul_le_mul_right _ b2) 1) (by omega)) ?_
    exact p_below a3 b3 (by omega) hP
  · have e : ((List.range (u.length - 1)).map fun t => PyData.bool (decide (((rsort u).take (t + 1)).sum < ((rsort v).take (t + 1)).sum))) = (List.range (u.length - 1)).map fun t => .bool ((fun t => decide (((rsort u).take (t + 1)).sum < ((rsort v).take (t + 1)).sum)) t) := rfl
    rw [List.nil_append, e, boolsOf_map (fun t => decide (((rsort u).take (t + 1)).sum < ((rsort v).take (t + 1)).sum))]
    dsimp! [someOf]
    have e2 : (!((List.range (u.length - 1)).map fun t => decide (((rsort u).take (t + 1)).sum < ((rsort v).take (t + 1)).sum)).any id) = asEv u v := by
      unfold asEv
      rw [List.any_map]
      show (!(List.range (u.length - 1)).any fun t => decide (((rsort u).take (t + 1)).sum < ((rsort v).take (t + 1)).sum)) = _
      rw [List.not_any_eq_all_not]
    rw [e2]
    exact hQ
theorem p_law_as_even {u v : List Rat} {A B : Nat} (hu : ∀ q ∈ u, sz A q) (hv : ∀ q ∈ v, sz B q) (l1 : 1 ≤ u.length) (l6 : u.length ≤ 6) (l7 : v.length ≤ 6) (hAB : (1 + 6 * (A + 1)) + (1 + 6 * (B + 1)) ≤ 8999) {Q : D → Prop} {x : EX} (hQ : Q (.bool (asEv u v))) : c_law_as_even [tR u, tR v] Q x := by
  (refine ⟨rfl, ?_⟩; unfold T_law_as_even; simp only [start, startL, List.length_cons, List.length_nil, Nat.reduceAdd, Nat.reduceSub, List.replicate, List.cons_append, List.nil_append])
  refine seq_go fun U hU => ?_
  dsimp!
  refine p_law_in_size hu (by omega) (by omega) (p_law_in_size hv (by omega) (by omega) ?_)
  repeat (with_reducible refine And.intro ?_ ?_; · first | decide | omega | (simp; done) | (simp; omega))
  (refine hU _ ?_; clear hU U)
  dsimp! [List.length_map, (rsort_perm u).length_eq]
  refine ⟨⟨by unfold rOk; omega, by unfold rOk; omega⟩, ?_⟩
  rw [upTo_eq, show ((u.length : Int) - 1).toNat = u.length - 1 by omega]
  refine ⟨by simp; omega, ?_⟩
  refine lc_map (fun k : Nat => .int (1 + (k : Int))) (fun t => .bool (!decide (((rsort u).take (t + 1)).sum < ((rsort v).take (t + 1)).sum))) _ [] (fun t ht P hP => ?_) ?_
  · rw [List.mem_range] at ht
    have et : (1 : Int) + (t : Int) = ((t + 1 : Nat) : Int) := by omega
    obtain ⟨a1, a2, a3⟩ := take_sz (k := t + 1) hu l6
    obtain ⟨b1, b2, b3⟩ := take_sz (k := t + 1) hv l7
    rw [et]
    dsimp! [cut_take, ← List.map_take]
    refine p_law_sum true _ a1 (Nat.le_trans (Nat.add_le_add_left (Nat.mul_le_mul_right _ a2) 1) (by omega)) ?_
    refine p_law_sum true _ b1 (Nat.le_trans (Nat.add_le_add_left (Nat.mul_le_mul_right _ b2) 1) (by omega)) ?_
    refine p_law_less a3 b3 (by omega) ?_
    dsimp!
    exact hP
  · rw [List.nil_append, boolsOf_map (fun t => !decide (((rsort u).take (t + 1)).sum < ((rsort v).take (t + 1)).sum))]
    dsimp! [someOf]
    rw [List.all_map]
    exact hQ

theorem lcN_map {α : Type} {g : uG} {e : uF} {ρ : Env} {Q : List (List D) → Prop} (enc : α → D) (f : α → List D) : ∀ (l : List α) (acc : List (List D)), (∀ a ∈ l, ∀ P : List D → Prop, P (f a) → g (enc a) ρ (fun ρ' => e ρ' P noEx)) → Q (acc ++ l.map f) → lcN g c_yes e ρ Q (l.map enc) acc
  | [], acc, _, h => by simpa using h
  | a :: l, acc, he, h => by
    simp only [lcN, c_yes, if_true, List.map_cons]
    refine he a List.mem_cons_self _ (lcN_map enc f l _ (fun a ha => he a (List.mem_cons_of_mem _ ha)) ?_)
    simpa using h
/-- rows of counts -/
structure Cnt (n : Nat) (s : Nat → Int) (c : List (List Int)) : Prop where
  len : c.length = n
  row : ∀ a, a < n → (c.getD a []).length = n
  pos : ∀ a, a < n → ∀ z ∈ c.getD a [], 0 ≤ z
  sum : ∀ a, a < n → (c.getD a []).sum = s a
theorem getD_map_iL (c : List (List Int)) (a : Nat) : (c.map iL).getD a [] = iL (c.getD a []) := by
  rw [List.getD_eq_getElem?_getD, List.getD_eq_getElem?_getD, List.getElem?_map]
  cases c[a]? <;> rfl
theorem sum_set1 : ∀ (l : List Int) (k : Nat), k < l.length → (l.set k (l.getD k 0 + 1)).sum = l.sum + 1
  | [], k, h => by cases h
  | a :: l, 0, _ => by simp only [List.set_cons_zero, List.getD_cons_zero, List.sum_cons]; omega
  | a :: l, k + 1, h => by
    simp only [List.set_cons_succ, List.getD_cons_succ, List.sum_cons]
    have := sum_set1 l k (by simpa using h)
    omega
theorem erase_iL : ∀ (l : List Int) (k : Nat), (iL l).eraseIdx k = iL (l.eraseIdx k)
  | [], _ => rfl
  | _ :: _, 0 => rfl
  | a :: l, k + 1 => by
    show PyData.int a :: (iL l).eraseIdx k = _
    rw [erase_iL l k]; rfl
theorem getD_setL (c : List (List Int)) (i a : Nat) (r : List Int) (h : i < c.length) : (c.set i r).getD a [] = if a = i then r else c.getD a [] := by
  rw [List.getD_eq_getElem?_getD, List.getD_eq_getElem?_getD, List.getElem?_set]
  by_cases e : i = a
  · subst e; simp [h]
  · rw [if_neg e, if_neg (fun z => e z.symm)]
theorem p_law_mixed {Q : D → Prop} {x : EX} (hQ : ∀ n m, Moves n m → (∀ r ∈ m, bd 31 r) → Q (mD m)) : c_law_mixed [.none] Q x := by
  (refine ⟨rfl, ?_⟩; unfold T_law_mixed; simp only [start, startL, List.length_cons, List.length_nil, Nat.reduceAdd, Nat.reduceSub, List.replicate, List.cons_append, List.nil_append])
  refine seq_mid (fun ρ => ∃ n T : Nat, ρ = [.draw, .val (.int n), .val (.int T), .emp, .emp, .emp, .emp, .emp, .emp, .emp] ∧ 2 ≤ n ∧ n ≤ 6 ∧ 1 ≤ T ∧ T ≤ 4) (fun N hN => ?_) ?_
  · dsimp!
    refine p_take (by decide) (by decide) fun r r0 r1 => ?_
    dsimp!
    refine p_take (by decide) (by decide) fun t t0 t1 => ?_
    dsimp!
    repeat (with_reducible refine And.intro ?_ ?_; · first | decide | omega | (simp; done) | (simp; omega))
    refine hN _ ⟨(2 + r).toNat, (1 + t).toNat, ?_, by omega, by omega, by omega, by omega⟩
    rw [show (((2 + r).toNat : Nat) : Int) = 2 + r by omega, show (((1 + t).toNat : Nat) : Int) = 1 + t by omega]
  rintro ρ ⟨n, T, rfl, h2, h6, t1, t4⟩
  refine seq_mid (fun ρ => ∃ c, ρ = [.draw, .val (.int n), .val (.int T), .nst (c.map iL), .emp, .emp, .emp, .emp, .emp, .emp] ∧ Cnt n (fun _ => 0) c) (fun N hN => ?_) ?_
  · dsimp!
    refine ⟨by unfold rOk; omega, ?_⟩
    rw [Int.toNat_natCast, upTo0]
    refine ⟨by simp; omega, ?_⟩
    refine lcN_map (fun k : Nat => .int (k : Int)) (fun _ => iL (List.replicate n 0)) _ [] (fun a ha P hP => ?_) ?_
    · dsimp!
      refine ⟨by decide, by omega, ?_⟩
      rw [Int.toNat_natCast, rep_flat]
      have e : List.replicate n (PyData.int 0) = iL (List.replicate n 0) := by unfold iL; rw [List.map_replicate]
      rw [e]
      exact hP
    · have e : (List.range n).map (fun _ => iL (List.replicate n 0)) = ((List.range n).map fun _ => List.replicate n (0 : Int)).map iL := by rw [List.map_map]; rfl
      rw [List.nil_append, e]
      have hg : ∀ a, a < n → ((List.range n).map fun _ => List.replicate n (0 : Int)).getD a [] = List.replicate n 0 := fun a ha => by
        rw [List.getD_eq_getElem?_getD, List.getElem?_map, List.getElem?_range ha]; rfl
      refine hN _ ⟨_, rfl, ⟨by simp, fun a ha => by rw [hg a ha]; simp, fun a ha z hz => ?_, fun a ha => by rw [hg a ha]; simp⟩⟩
      rw [hg a ha] at hz
      rw [(List.mem_replicate.mp hz).2]; decide
  rintro ρ ⟨c, rfl, C⟩
  refine seq_mid (fun ρ => ∃ c y4 y5 y6 y7, ρ = [.draw, .val (.int n), .val (.int T), .nst (c.map iL), y4, y5, y6, y7, .emp, .emp] ∧ Cnt n (fun _ => T) c) (fun N hN => ?_) ?_
  · simp only [s_for, i_rng1, b_v, nOf, bOf, List.getElem?_cons_succ, List.getElem?_cons_zero]
    refine ⟨by unfold rOk; omega, ?_⟩
    rw [Int.toNat_natCast]
    refine for_up (fun k ρ => ∃ c y4 y5 y6 y7, ρ = [.draw, .val (.int n), .val (.int T), .nst (c.map iL), y4, y5, y6, y7, .emp, .emp] ∧ Cnt n (fun _ => k) c) T 0 (fun k ρ N1 hk => ?_) ⟨c, _, _, _, _, rfl, C⟩ (fun ρ h => hN ρ h)
    rintro ⟨c, y4, y5, y6, y7, rfl, C⟩ hN1
    simp only [g_n.eq_1, List.set_cons_zero, List.set_cons_succ]
    refine seq_go fun U hU => ?_
    dsimp!
    refine ⟨by omega, ?_⟩
    rw [Int.toNat_natCast, upTo0]
    (refine hU _ ?_; clear hU U)
    simp only [s_for, i_rng1, b_v, nOf, bOf, List.getElem?_cons_succ, List.getElem?_cons_zero]
    refine ⟨by unfold rOk; omega, ?_⟩
    rw [Int.toNat_natCast]
    have e0 : ((List.range n).map fun k : Nat => PyData.int (k : Int)) = iL ((List.range n).map fun k : Nat => (k : Int)) := by unfold iL; rw [List.map_map]; rfl
    rw [e0]
    refine for_up (fun i ρ => ∃ (c : List (List Int)) (left : List Int) (y4 y7 : Sl), ρ = [.draw, .val (.int n), .val (.int T), .nst (c.map iL), y4, .val (.int (k : Int)), .own (iL left), y7, .emp, .emp] ∧ Cnt n (fun a => k + if a < i then 1 else 0) c ∧ left.length = n - i ∧ ∀ z ∈ left, 0 ≤ z ∧ z < n) n 0 (fun i ρ N2 hi => ?_) ⟨c, (List.range n).map fun k : Nat => (k : Int), y4, y7, rfl, ?_, by simp, ?_⟩ ?fin
    case fin =>
      rintro ρ ⟨c, left, y4, y7, rfl, C, _, _⟩
      refine hN1 _ ⟨c, _, _, _, _, rfl, C.len, C.row, C.pos, fun a ha => ?_⟩
      rw [C.sum a ha, if_pos ha]
      omega
    · rintro ⟨c, left, y4, y7, rfl, C, hll, hl⟩ hN2
      simp only [g_n.eq_1, List.set_cons_zero, List.set_cons_succ]
      rw [Int.zero_add]
      refine seq_mid (fun ρ => ∃ (w : Nat) (left : List Int), ρ = [.draw, .val (.int n), .val (.int T), .nst (c.map iL), .val (.int (i : Int)), .val (.int (k : Int)), .own (iL left), .val (.int w), .emp, .emp] ∧ w < n ∧ left.length = n - (i + 1) ∧ ∀ z ∈ left, 0 ≤ z ∧ z < n) (fun N hN => ?_) ?_
      · dsimp! [iL_len]
        refine p_take (by omega) (by omega) fun r r0 r1 => ?_
        have hr : r.toNat < left.length := by omega
        obtain ⟨w, hw⟩ : ∃ w : Nat, left[r.toNat] = w := ⟨left[r.toNat].toNat, by have := hl _ (List.getElem_mem hr); omega⟩
        have hwn := hl _ (List.getElem_mem hr)
        have e1 : (iL left)[r.toNat]? = some (.int w) := by rw [iL_get, List.getElem?_eq_getElem hr, hw]; rfl
        dsimp! [e1]
        refine ⟨⟨r0, by omega⟩, hN _ ⟨w, left.eraseIdx r.toNat, ?_, by omega, ?_, fun z hz => hl z (List.mem_of_mem_eraseIdx hz)⟩⟩
        · rw [erase_iL]
        · rw [List.length_eraseIdx, if_pos hr]; omega
      rintro ρ ⟨w, left, rfl, hw, hll, hl⟩
      have hwl : w < (c.getD i []).length := by rw [C.row i hi]; exact hw
      have e1 : at_ (iL (c.getD i [])) (w : Int) = some (.int ((c.getD i []).getD w 0)) := at_iL hwl
      dsimp! [getD_map_iL, List.length_map, C.len]
      refine ix_nat rfl hi ?_
      dsimp! [getD_map_iL, e1]
      refine ix_nat rfl hi ?_
      rw [iL_len]
      refine ix_nat rfl hwl ?_
      refine hN2 _ ⟨c.set i ((c.getD i []).set w ((c.getD i []).getD w 0 + 1)), left, .val (.int (i : Int)), .val (.int (w : Int)), ?_, ?_, hll, hl⟩
      · rw [List.map_set, iL_set]
      · have hi' : i < c.length := by rw [C.len]; exact hi
        refine ⟨by rw [List.length_set, C.len], fun a ha => ?_, fun a ha z hz => ?_, fun a ha => ?_⟩
        · rw [getD_setL _ _ _ _ hi']
          split
          · rw [List.length_set, C.row i hi]
          · exact C.row a ha
        · rw [getD_setL _ _ _ _ hi'] at hz
          split at hz
          · rcases List.mem_or_eq_of_mem_set hz with hz | rfl
            · exact C.pos i hi z hz
            · have := C.pos i hi _ (getD_mem hwl)
              omega
          · exact C.pos a ha z hz
        · rw [getD_setL _ _ _ _ hi']
          split
          · rename_i e
            subst e
            rw [sum_set1 _ _ hwl, C.sum a hi, if_neg (by omega), if_pos (by omega)]
            omega
          · rename_i e
            rw [C.sum a ha]
            by_cases h1 : a < i
            · rw [if_pos h1, if_pos (by omega)]
            · rw [if_neg h1, if_neg (by omega)]
    · exact ⟨C.len, C.row, C.pos, fun a ha => by rw [C.sum a ha, if_neg (by omega)]; omega⟩
    · intro z hz
      obtain ⟨j, hj, rfl⟩ := List.mem_map.mp hz
      rw [List.mem_range] at hj
      omega
  rintro ρ ⟨c, y4, y5, y6, y7, rfl, C⟩
  dsimp!
  refine ⟨by simp [C.len]; omega, ?_⟩
  have hc : ∀ r ∈ c, r.length = n ∧ (∀ z ∈ r, 0 ≤ z) ∧ r.sum = T := fun r hr => by
    obtain ⟨a, ha, rfl⟩ := List.getElem_of_mem hr
    have e : c.getD a [] = c[a] := by rw [List.getD_eq_getElem?_getD, List.getElem?_eq_getElem ha]; rfl
    have ha' : a < n := by rw [← C.len]; exact ha
    rw [← e]
    exact ⟨C.row a ha', C.pos a ha', C.sum a ha'⟩
  have er : (c.map iL).map PyData.list = c.map fun r => PyData.list (iL r) := by rw [List.map_map]; rfl
  rw [er]
  refine lc_map (fun r : List Int => .list (iL r)) (fun r => tR (r.map fun z => Rat.divInt z T)) c [] (fun r hr P hP => ?_) ?_
  · obtain ⟨k1, k2, k3⟩ := hc r hr
    dsimp! [iL_len]
    refine ⟨by omega, ?_⟩
    refine lc_map (fun z : Int => .int z) (fun z => rD (Rat.divInt z T)) r [] (fun z hz P hP => ?_) ?_
    · dsimp!
      exact p_law_ratio z T (B := 5) (by omega) (by omega) (by decide) hP
    · rw [List.nil_append]
      have e : (r.map fun z => rD (Rat.divInt z T)) = (r.map fun z => Rat.divInt z T).map rD := by rw [List.map_map]; rfl
      dsimp! [e]
      exact hP
  · have e : (c.map fun r => tR (r.map fun z => Rat.divInt z T)) = (c.map fun r => r.map fun z => Rat.divInt z T).map tR := by rw [List.map_map]; rfl
    rw [List.nil_append, e]
    have sh : ∀ r ∈ c.map fun r => r.map fun z => Rat.divInt z T, Shares n r ∧ bd 4 r := fun r hr => by
      obtain ⟨r, hr', rfl⟩ := List.mem_map.mp hr
      obtain ⟨k1, k2, k3⟩ := hc r hr'
      exact ⟨(shares_of k1 k2 k3 (by omega)).1, bd_of (by omega) (by omega)⟩
    exact hQ n _ ⟨h2, h6, by simp [C.len], fun r hr => (sh r hr).1, fun r hr q hq => Nat.le_trans ((sh r hr).2.le q hq) (by decide)⟩ fun r hr => (sh r hr).2.mono (by decide)

theorem m_range {n : Nat} {m : List (List Rat)} (hl : m.length = n) : (List.range n).map (rw_ m) = m := by
  apply List.ext_getElem?
  intro i
  rw [List.getElem?_map]
  by_cases h : i < n
  · rw [List.getElem?_range h, rw_lt (by omega)]; rfl
  · rw [List.getElem?_eq_none (by simpa using h), List.getElem?_eq_none (by omega)]; rfl
def colS (m : List (List Rat)) (j : Nat) : Rat := (m.map fun r => gt r j).sum
theorem colS_eq {n : Nat} {m : List (List Rat)} (hl : m.length = n) (j : Nat) : colS m j = sumR n fun i => gt (rw_ m i) j := by
  unfold colS sumR
  conv => lhs; rw [← m_range hl]
  rw [List.map_map]; rfl
def mixB (n : Nat) (m : List (List Rat)) : Bool := (List.range n).all fun j => decide (colS m j = 1)
theorem col_sz {n : Nat} {m : List (List Rat)} (M : Moves n m) {j : Nat} (hj : j < n) : (∀ q ∈ m.map fun r => gt r j, sz 10 q) ∧ 1 + (m.map fun r => gt r j).length * (10 + 1) ≤ 8999 := by
  refine ⟨fun q hq => ?_, ?_⟩
  · obtain ⟨r, hr, rfl⟩ := List.mem_map.mp hq
    exact M.sz hr (gt_mem (by rw [(M.row r hr).len]; exact hj))
  · rw [List.length_map, M.len]
    have := M.hi
    omega
def unif (n : Nat) : List Rat := List.replicate n (Rat.divInt 1 n)
theorem p_mixing_objection {n : Nat} {m : List (List Rat)} (M : Moves n m) {Q : D → Prop} {x : EX} (hQ : Q (if mixB n m = true then .none else tR (unif n))) : c_mixing_objection [mD m] Q x := by
  (refine ⟨rfl, ?_⟩; unfold T_mixing_objection; simp only [start, startL, List.length_cons, List.length_nil, Nat.reduceAdd, Nat.reduceSub, List.replicate, List.cons_append, List.nil_append])
  have hhi := M.hi
  have hlo := M.lo
  dsimp!
  refine p_check_ok M ?_
  dsimp! [mD, List.length_map, M.len]
  refine ⟨by unfold rOk; omega, ?_⟩
  rw [Int.toNat_natCast, upTo0]
  refine ⟨by simp; omega, ?_⟩
  refine lc_map (fun k : Nat => .int (k : Int)) (fun j => .bool (decide (colS m j = 1))) _ [] (fun j hj P hP => ?_) ?_
  · rw [List.mem_range] at hj
    dsimp! [List.length_map, M.len]
    refine ⟨by omega, ?_⟩
    refine lc_map tR (fun r => rD (gt r j)) m [] (fun r hr P hP => ?_) ?_
    · dsimp! [tR, at_tR (show j < r.length by rw [(M.row r hr).len]; exact hj)]
      exact hP
    · have e : (m.map fun r => rD (gt r j)) = (m.map fun r => gt r j).map rD := by rw [List.map_map]; rfl
      rw [List.nil_append, e]
      obtain ⟨c1, c2⟩ := col_sz M hj
      refine p_total true _ c1 c2 ?_
      have k1 : k_ONE = rD 1 := rfl
      rw [k1]
      exact p_eq_rD hP
  · rw [List.nil_append, boolsOf_map (fun j => decide (colS m j = 1))]
    dsimp! [someOf]
    have e : ((List.range n).map fun j => decide (colS m j = 1)).all id = mixB n m := by rw [List.all_map]; rfl
    rw [e]
    cases hm : mixB n m with
    | true =>
      rw [hm] at hQ
      simpa only [LN, e_c, vOf.eq_1, vOf.eq_2, bOf.eq_1, bOf.eq_2, bOf.eq_3, e_v, b_v, e_f, e_op, e_un, o_add.eq_1, o_add.eq_2, o_add.eq_3, o_add.eq_4, o_add.eq_5, o_sub.eq_1, o_sub.eq_2, o_mul.eq_1, o_mul.eq_2, o_mul.eq_3, o_mul.eq_4, o_fdiv.eq_1, o_fdiv.eq_2, o_mod.eq_1, o_mod.eq_2, o_lt.eq_1, o_lt.eq_2, o_le.eq_1, o_le.eq_2, o_gt.eq_1, o_gt.eq_2, o_ge.eq_1, o_ge.eq_2, o_eq_int, o_ne_int, isNone.eq_1, isNone.eq_2, o_isN, o_notN, o_isB.eq_1, o_isB.eq_2, o_notB.eq_1, o_notB.eq_2, o_neg.eq_1, o_neg.eq_2, kOf.eq_1, kOf.eq_2, c_e, c_and, c_or, c_not, e_and, e_or, e_not, e_if, e_ch, a_nil, a_cons, isDraw.eq_1, isDraw.eq_2, a_draw, e_tup, listOf.eq_1, listOf.eq_2, f_op, f_lst, e_call, oOf.eq_1, oOf.eq_2, o_ix.eq_1, o_ix.eq_2, o_ix.eq_3, iOf.eq_1, iOf.eq_2, p_none, p_some, o_sl.eq_1, o_sl.eq_2, o_sl.eq_3, e_sl, o_len.eq_1, o_len.eq_2, o_len.eq_3, o_len.eq_4, o_abs.eq_1, o_abs.eq_2, o_int.eq_1, o_int.eq_2, o_int.eq_3, isTy.eq_1, isTy.eq_2, isTy.eq_3, isTy.eq_4, isTy.eq_5, isTy.eq_6, isTy.eq_7, o_isin, o_tuple.eq_1, o_tuple.eq_2, o_tuple.eq_3, seqQ.eq_1, seqQ.eq_2, seqQ.eq_3, f_list, someOf.eq_1, someOf.eq_2, o_sum, o_maxS, o_minS, o_all.eq_1, o_all.eq_2, o_any.eq_1, o_any.eq_2, o_max.eq_1, o_max.eq_2, o_min.eq_1, o_min.eq_2, o_min3.eq_1, o_min3.eq_2, e_op3, o_repr, i_seq, nOf.eq_1, nOf.eq_2, i_rng1, i_rng2, i_rngD, rgOf.eq_1, rgOf.eq_2, i_rngV, i_num, i_zip2, i_zip, i_enum, g_n, g_nil.eq_1, g_nil.eq_2, g_cons.eq_1, g_cons.eq_2, g_tup.eq_1, g_tup.eq_2, wipeE.eq_1, wipeE.eq_2, f_lc, c_yes, s_nil, s_seq, s_brk, s_cnt, s_set, s_own, s_rng, s_unp, s_par, s_if, s_ret, s_ex, frzA.eq_1, frzA.eq_2, frzA.eq_3, frz, s_frz, ownOf.eq_1, ownOf.eq_2, s_app, s_insert, ixOf, o_rev.eq_1, o_rev.eq_2, nstOf.eq_1, nstOf.eq_2, b_nix, s_sub2, s_app2, lcN.eq_1, lcN.eq_2, s_nst, s_sub, popQ, s_pop, s_popS, tup2.eq_1, tup2.eq_2, sub1, s_swp, sub2, s_swp2, f_lrng, s_for, isScr.eq_1, isScr.eq_2, s_draw, s_raise, strQ.eq_1, strQ.eq_2, intQ.eq_1, intQ.eq_2, s_raiseR, only, exM.eq_1, exM.eq_2, exM.eq_3, s_tryM, exMR.eq_1, exMR.eq_2, exMR.eq_3, s_tryMR, F_angle, startL.eq_1, startL.eq_2, startL.eq_3, start, List.set_cons_zero, List.set_cons_succ, List.getElem?_cons_zero, List.getElem?_cons_succ, List.length_cons, List.length_nil, List.cons_append, List.nil_append, List.replicate, if_true, if_false, Bool.false_eq_true, Bool.true_and, Bool.false_and, Bool.and_true, Bool.and_false, Bool.not_true, Bool.not_false, Bool.or_true, Bool.or_false, Bool.true_or, Bool.false_or, true_and, and_true, ite_self, reduceCtorEq, forL, lcL] using hQ
    | false =>
      rw [hm] at hQ
      simp only [Bool.false_eq_true, if_false] at hQ ⊢
      refine p_lowest 1 n (B := 3) (by omega) (by omega) (by decide) ?_
      refine ⟨by decide, by omega, ?_⟩
      try rw [Int.toNat_natCast]
      rw [rep_flat]
      have e2 : List.replicate n (rD (Rat.divInt 1 n)) = (unif n).map rD := by unfold unif; rw [List.map_replicate]
      rw [e2]
      exact hQ
theorem p_mixing_odd {o : D} (ho : odd o) {Q : D → Prop} {x : EX} (h : x .malformed) : c_mixing_objection [o] Q x := by
  (refine ⟨rfl, ?_⟩; unfold T_mixing_objection; simp only [start, startL, List.length_cons, List.length_nil, Nat.reduceAdd, Nat.reduceSub, List.replicate, List.cons_append, List.nil_append])
  dsimp!
  exact p_check_bad ho.2 (by decide) ho.1 h
def ratsD : D → List Rat
  | .tuple ds => ratsOf ds
  | _ => []
def tkB (n : Nat) (m : List (List Rat)) (d : D) : Bool := fitsB d n && !asEv (step n m (ratsD d)) (ratsD d)
theorem fits_rats {d : D} {n : Nat} (h : fitsB d n = true) : ∃ s, d = tR s ∧ Shares n s ∧ ratsD d = s := by
  obtain ⟨s, rfl, h1, h2, h3⟩ := fitsB_rats h
  exact ⟨s, rfl, ⟨h1, h2, h3⟩, ratsOf_map s⟩
theorem p_takes {n : Nat} {m : List (List Rat)} (M : Moves n m) {d : D} (hs : small 10 d) {Q : D → Prop} {x : EX} (hQ : Q (.bool (tkB n m d))) : c_takes_mixing_objection [mD m, d] Q x := by
  (refine ⟨rfl, ?_⟩; unfold T_takes_mixing_objection; simp only [start, startL, List.length_cons, List.length_nil, Nat.reduceAdd, Nat.reduceSub, List.replicate, List.cons_append, List.nil_append])
  have hhi := M.hi
  have hlo := M.lo
  dsimp!
  refine p_check_ok M ?_
  have el : ∀ Q : D → Prop, o_len (mD m) Q = Q (.int n) := fun Q => by simp only [mD, o_len, List.length_map, M.len]
  dsimp! [el]
  refine p_fits_shares d n hs (by omega) (by omega) ?_
  by_cases hf : fitsB d n = true
  · obtain ⟨s, rfl, S, hr⟩ := fits_rats hf
    have hB : ∀ q ∈ s, sz 10 q := fun q hq => hs (rD q) (List.mem_map.mpr ⟨q, hq, rfl⟩) q rfl
    dsimp! [hf]
    refine p_stepped M S.len hB (by decide) ?_
    refine p_is_as_even (A := 1 + 6 * (10 + 11)) (B := 10) (step_sz M S.len hB) hB (by rw [step_len]; omega) (by rw [step_len]; exact hhi) (by rw [S.len]; exact hhi) (by decide) ?_
    unfold tkB at hQ
    rw [hf, hr] at hQ
    dsimp!
    simpa using hQ
  · have hf' : fitsB d n = false := by simpa using hf
    dsimp! [hf']
    unfold tkB at hQ
    rw [hf'] at hQ
    simpa using hQ
theorem p_takes_odd {o d : D} (ho : odd o) {Q : D → Prop} {x : EX} (h : x .malformed) : c_takes_mixing_objection [o, d] Q x := by
  (refine ⟨rfl, ?_⟩; unfold T_takes_mixing_objection; simp only [start, startL, List.length_cons, List.length_nil, Nat.reduceAdd, Nat.reduceSub, List.replicate, List.cons_append, List.nil_append])
  dsimp!
  exact p_check_bad ho.2 (by decide) ho.1 h
theorem P_le {n : Nat} {m : List (List Rat)} {s : List Rat} (M : Moves n m) (S : Shares n s) (hm : mixB n m = true) (t : Rat) : phi (step n m s) t ≤ phi s t := by
  have hc : ∀ j < n, (sumR n fun i => gt (rw_ m i) j) = 1 := fun j hj => by
    have := List.all_eq_true.mp hm j (List.mem_range.mpr hj)
    rw [← colS_eq M.len]
    exact of_decide_eq_true this
  have g0 : ∀ i < n, ∀ j < n, 0 ≤ gt (rw_ m i) j := fun i hi j hj => by
    obtain ⟨g1, g2⟩ := gt_rw0 M hi hj
    exact (M.row _ g2).pos _ g1
  have e1 : phi (step n m s) t = sumR n fun j => pos (t - sumR n fun i => gt s i * gt (rw_ m i) j) := by
    unfold phi step sumR
    rw [List.map_map]; rfl
  have e2 : phi s t = sumR n fun i => pos (t - gt s i) := by
    have : s = (List.range n).map (gt s) := by
      apply List.ext_getElem?
      intro i
      rw [List.getElem?_map]
      by_cases h : i < n
      · rw [List.getElem?_range h, gt_lt (by rw [S.len]; exact h)]; rfl
      · rw [List.getElem?_eq_none (by rw [S.len]; omega), List.getElem?_eq_none (by simpa using h)]; rfl
    unfold phi sumR
    conv => lhs; rw [this]
    rw [List.map_map]; rfl
  rw [e1, e2]
  refine Rat.le_trans (sumR_le (g := fun j => sumR n fun i => gt (rw_ m i) j * pos (t - gt s i)) n fun j hj => ?_) ?_
  · have e3 : t - (sumR n fun i => gt s i * gt (rw_ m i) j) = sumR n fun i => gt (rw_ m i) j * (t - gt s i) := by
      have h1 : (sumR n fun i => gt (rw_ m i) j * (t - gt s i)) = sumR n fun i => t * gt (rw_ m i) j + (-1) * (gt s i * gt (rw_ m i) j) := sumR_congr fun i _ => by grind
      rw [h1, sumR_add, sumR_mul, sumR_mul, hc j hj]
      grind
    rw [e3]
    exact pos_sum n fun i hi => g0 i hi j hj
  · rw [sumR_swap (fun i j => gt (rw_ m i) j * pos (t - gt s i)) n n]
    refine sumR_le n fun i hi => ?_
    have e4 : (sumR n fun j => gt (rw_ m i) j * pos (t - gt s i)) = pos (t - gt s i) * sumR n (gt (rw_ m i)) := by
      rw [← sumR_mul]
      exact sumR_congr fun j _ => Rat.mul_comm _ _
    have m1 := rw_mem (m := m) (i := i) (by rw [M.len]; omega)
    have R := M.row _ m1
    have e5 : sumR n (gt (rw_ m i)) = 1 := by rw [← R.sum, all_sum (rw_ m i), R.len]
    show (sumR n fun j => gt (rw_ m i) j * pos (t - gt s i)) ≤ _
    rw [e4, e5, Rat.mul_one]
    exact Rat.le_refl
theorem mix_none {n : Nat} {m : List (List Rat)} (M : Moves n m) (hm : mixB n m = true) (d : D) : tkB n m d = false := by
  unfold tkB
  by_cases hf : fitsB d n = true
  · obtain ⟨s, rfl, S, hr⟩ := fits_rats hf
    rw [hf, hr, Bool.true_and]
    have : asEv (step n m s) s = true := by
      unfold asEv
      rw [List.all_eq_true]
      intro t ht
      rw [List.mem_range, step_len] at ht
      have := maj (v := s) (w := step n m s) (by rw [step_len, S.len]) (P_le M S hm) (k := t) (by rw [S.len]; omega)
      simpa using Rat.not_lt.mpr this
    rw [this]; rfl
  · have hf' : fitsB d n = false := by simpa using hf
    rw [hf', Bool.false_and]
theorem unif_shares {n : Nat} (h : 0 < n) : Shares n (unif n) := by
  have e : unif n = (List.replicate n (1 : Int)).map fun k => Rat.divInt k (n : Int) := by unfold unif; rw [List.map_replicate]
  rw [e]
  refine (shares_of (by simp) (fun k hk => by rw [(List.mem_replicate.mp hk).2]; decide) ?_ (by omega)).1
  clear e
  induction n with
  | zero => rfl
  | succ n ih =>
    rw [List.replicate_succ, List.sum_cons]
    rcases Nat.eq_zero_or_pos n with rfl | hp
    · rfl
    · rw [ih hp]; omega
theorem unif_obj {n : Nat} {m : List (List Rat)} (M : Moves n m) (hm : mixB n m = false) : tkB n m (tR (unif n)) = true := by
  have hlo := M.lo
  have S := unif_shares (n := n) (by omega)
  have hf := fitsB_of S.len S.pos S.sum
  have hr : ratsD (tR (unif n)) = unif n := ratsOf_map _
  unfold tkB
  rw [hr, tR, hf, Bool.true_and]
  cases hv : asEv (step n m (unif n)) (unif n) with
  | false => rfl
  | true =>
    exfalso
    have S2 := step_shares M S
    unfold asEv at hv
    rw [List.all_eq_true] at hv
    have h0 := hv 0 (List.mem_range.mpr (by rw [step_len]; omega))
    simp only [Bool.not_eq_true', decide_eq_false_iff_not, Nat.zero_add] at h0
    have h0 := Rat.not_lt.mp h0
    -- the least of the uniform ones
    have hn0 : ((n : Int) : Rat) ≠ 0 := by
      intro z
      have : (n : Int) = 0 := by exact_mod_cast z
      omega
    obtain ⟨u, hu⟩ : ∃ u : Rat, u = Rat.divInt 1 n := ⟨_, rfl⟩
    have lu : (rsort (unif n)).length = n := by rw [(rsort_perm _).length_eq, S.len]
    have ls : (rsort (step n m (unif n))).length = n := by rw [(rsort_perm _).length_eq, S2.len]
    have first : ∀ (l : List Rat), 0 < l.length → ∃ a r, l = a :: r ∧ (l.take 1).sum = a := fun l h => by
      cases l with
      | nil => cases h
      | cons a r => exact ⟨a, r, rfl, by simp [Rat.add_zero]⟩
    obtain ⟨a, ra, ea, sa⟩ := first (rsort (unif n)) (by omega)
    obtain ⟨b, rb, eb, sb⟩ := first (rsort (step n m (unif n))) (by omega)
    rw [sa, sb] at h0
    have hau : a = u := by
      have : a ∈ unif n := (rsort_perm (unif n)).mem_iff.mp (by rw [ea]; exact List.mem_cons_self)
      rw [(List.mem_replicate.mp this).2, hu]
    have hall : ∀ q ∈ step n m (unif n), u ≤ q := fun q hq => by
      have hq' : q ∈ b :: rb := by rw [← eb]; exact (rsort_perm _).mem_iff.mpr hq
      have hs := rsort_sorted (step n m (unif n))
      rw [eb, List.pairwise_cons] at hs
      rw [hau] at h0
      rcases List.mem_cons.mp hq' with rfl | hq'
      · exact h0
      · exact Rat.le_trans h0 (hs.1 q hq')
    let f : Nat → Rat := fun j => sumR n fun i => gt (unif n) i * gt (rw_ m i) j
    have hsum : sumR n f = (n : Rat) * u := by
      have e : (step n m (unif n)).sum = sumR n f := rfl
      rw [← e, S2.sum, hu, Rat.divInt_eq_div]
      show (1 : Rat) = ((n : Int) : Rat) * (((1 : Int) : Rat) / ((n : Int) : Rat))
      have : ((1 : Int) : Rat) = 1 := rfl
      rw [this]
      grind
    have hfj := all_eq n (fun j hj => hall (f j) (List.mem_map.mpr ⟨j, List.mem_range.mpr hj, rfl⟩)) hsum
    have hu0 : u ≠ 0 := by
      intro z
      have := Rat.divInt_eq_div 1 (n : Int)
      rw [← hu, z] at this
      have h1 : ((1 : Int) : Rat) = 1 := rfl
      rw [h1] at this
      grind
    have : mixB n m = true := by
      unfold mixB
      rw [List.all_eq_true]
      intro j hj
      rw [List.mem_range] at hj
      rw [decide_eq_true_eq, colS_eq M.len]
      have h1 := hfj j hj
      have h2 : f j = u * sumR n fun i => gt (rw_ m i) j := by
        rw [← sumR_mul]
        refine sumR_congr fun i hi => ?_
        have : gt (unif n) i = u := by
          have := gt_mem (r := unif n) (i := i) (by rw [S.len]; exact hi)
          rw [(List.mem_replicate.mp this).2, hu]
        rw [this]
      rw [h2] at h1
      grind
    rw [hm] at this
    cases this

theorem p_law_after2 {n : Nat} {m : List (List Rat)} {s : List Rat} {B : Nat} (M : Moves n m) (hl : s.length = n) (hB : ∀ q ∈ s, sz B q) (hb : 1 + 6 * (B + 11) ≤ 8999) {Q : D → Prop} {x : EX} (hQ : Q (tR (step n m s))) : c_law_after [mD m, tR s] Q x := by
  refine ⟨rfl, ?_⟩
  have hlo := M.lo
  have hhi := M.hi
  simp only [LN, e_c, vOf.eq_1, vOf.eq_2, bOf.eq_1, bOf.eq_2, bOf.eq_3, e_v, b_v, e_f, e_op, e_un, o_add.eq_1, o_add.eq_2, o_add.eq_3, o_add.eq_4, o_add.eq_5, o_sub.eq_1, o_sub.eq_2, o_mul.eq_1, o_mul.eq_2, o_mul.eq_3, o_mul.eq_4, o_fdiv.eq_1, o_fdiv.eq_2, o_mod.eq_1, o_mod.eq_2, o_lt.eq_1, o_lt.eq_2, o_le.eq_1, o_le.eq_2, o_gt.eq_1, o_gt.eq_2, o_ge.eq_1, o_ge.eq_2, o_eq_int, o_ne_int, isNone.eq_1, isNone.eq_2, o_isN, o_notN, o_isB.eq_1, o_isB.eq_2, o_notB.eq_1, o_notB.eq_2, o_neg.eq_1, o_neg.eq_2, kOf.eq_1, kOf.eq_2, c_e, c_and, c_or, c_not, e_and, e_or, e_not, e_if, e_ch, a_nil, a_cons, isDraw.eq_1, isDraw.eq_2, a_draw, e_tup, listOf.eq_1, listOf.eq_2, f_op, f_lst, e_call, oOf.eq_1, oOf.eq_2, o_ix.eq_1, o_ix.eq_2, o_ix.eq_3, iOf.eq_1, iOf.eq_2, p_none, p_some, o_sl.eq_1, o_sl.eq_2, o_sl.eq_3, e_sl, o_len.eq_1, o_len.eq_2, o_len.eq_3, o_len.eq_4, o_abs.eq_1, o_abs.eq_2, o_int.eq_1, o_int.eq_2, o_int.eq_3, isTy.eq_1, isTy.eq_2, isTy.eq_3, isTy.eq_4, isTy.eq_5, isTy.eq_6, isTy.eq_7, o_isin, o_tuple.eq_1, o_tuple.eq_2, o_tuple.eq_3, seqQ.eq_1, seqQ.eq_2, seqQ.eq_3, f_list, someOf.eq_1, someOf.eq_2, o_sum, o_maxS, o_minS, o_all.eq_1, o_all.eq_2, o_any.eq_1, o_any.eq_2, o_max.eq_1, o_max.eq_2, o_min.eq_1, o_min.eq_2, o_min3.eq_1, o_min3.eq_2, e_op3, o_repr, i_seq, nOf.eq_1, nOf.eq_2, i_rng1, i_rng2, i_rngD, rgOf.eq_1, rgOf.eq_2, i_rngV, i_num, i_zip2, i_zip, i_enum, g_n, g_nil.eq_1, g_nil.eq_2, g_cons.eq_1, g_cons.eq_2, g_tup.eq_1, g_tup.eq_2, wipeE.eq_1, wipeE.eq_2, f_lc, c_yes, s_nil, s_seq, s_brk, s_cnt, s_set, s_own, s_rng, s_unp, s_par, s_if, s_ret, s_ex, frzA.eq_1, frzA.eq_2, frzA.eq_3, frz, s_frz, ownOf.eq_1, ownOf.eq_2, s_app, s_insert, o_rev.eq_1, o_rev.eq_2, nstOf.eq_1, nstOf.eq_2, b_nix, s_sub2, s_app2, lcN.eq_1, lcN.eq_2, s_nst, s_sub, popQ, s_pop, s_popS, tup2.eq_1, tup2.eq_2, sub1, s_swp, sub2, s_swp2, f_lrng, s_for, isScr.eq_1, isScr.eq_2, s_draw, s_raise, strQ.eq_1, strQ.eq_2, intQ.eq_1, intQ.eq_2, s_raiseR, only, exM.eq_1, exM.eq_2, exM.eq_3, s_tryM, exMR.eq_1, exMR.eq_2, exMR.eq_3, s_tryMR, F_angle, startL.eq_1, startL.eq_2, startL.eq_3, start, List.set_cons_zero, List.set_cons_succ, List.getElem?_cons_zero, List.getElem?_cons_succ, List.length_cons, List.length_nil, List.cons_append, List.nil_append, List.replicate, if_true, if_false, Bool.false_eq_true, Bool.true_and, Bool.false_and, Bool.and_true, Bool.and_false, Bool.not_true, Bool.not_false, Bool.or_true, Bool.or_false, Bool.true_or, Bool.false_or, true_and, and_true, ite_self, reduceCtorEq, forL, lcL, T_law_after, mD, tR, List.length_map, M.len, Int.sub_zero, Int.toNat_natCast]
  refine ⟨by unfold rOk; omega, by rw [upTo_eq]; simp; omega, ?_⟩
  refine lc_fun (zF fun z => rD (sumR n fun i => gt s i * gt (rw_ m i) z.toNat)) _ [] (fun d hd Pp hP => ?_) ?_
  · rw [upTo_eq] at hd
    obtain ⟨j, hj, rfl⟩ := List.mem_map.mp hd
    rw [List.mem_range] at hj
    simp only [zF, Int.zero_add, Int.toNat_natCast] at hP
    simp only [LN, e_c, vOf.eq_1, vOf.eq_2, bOf.eq_1, bOf.eq_2, bOf.eq_3, e_v, b_v, e_f, e_op, e_un, o_add.eq_1, o_add.eq_2, o_add.eq_3, o_add.eq_4, o_add.eq_5, o_sub.eq_1, o_sub.eq_2, o_mul.eq_1, o_mul.eq_2, o_mul.eq_3, o_mul.eq_4, o_fdiv.eq_1, o_fdiv.eq_2, o_mod.eq_1, o_mod.eq_2, o_lt.eq_1, o_lt.eq_2, o_le.eq_1, o_le.eq_2, o_gt.eq_1, o_gt.eq_2, o_ge.eq_1, o_ge.eq_2, o_eq_int, o_ne_int, isNone.eq_1, isNone.eq_2, o_isN, o_notN, o_isB.eq_1, o_isB.eq_2, o_notB.eq_1, o_notB.eq_2, o_neg.eq_1, o_neg.eq_2, kOf.eq_1, kOf.eq_2, c_e, c_and, c_or, c_not, e_and, e_or, e_not, e_if, e_ch, a_nil, a_cons, isDraw.eq_1, isDraw.eq_2, a_draw, e_tup, listOf.eq_1, listOf.eq_2, f_op, f_lst, e_call, oOf.eq_1, oOf.eq_2, o_ix.eq_1, o_ix.eq_2, o_ix.eq_3, iOf.eq_1, iOf.eq_2, p_none, p_some, o_sl.eq_1, o_sl.eq_2, o_sl.eq_3, e_sl, o_len.eq_1, o_len.eq_2, o_len.eq_3, o_len.eq_4, o_abs.eq_1, o_abs.eq_2, o_int.eq_1, o_int.eq_2, o_int.eq_3, isTy.eq_1, isTy.eq_2, isTy.eq_3, isTy.eq_4, isTy.eq_5, isTy.eq_6, isTy.eq_7, o_isin, o_tuple.eq_1, o_tuple.eq_2, o_tuple.eq_3, seqQ.eq_1, seqQ.eq_2, seqQ.eq_3, f_list, someOf.eq_1, someOf.eq_2, o_sum, o_maxS, o_minS, o_all.eq_1, o_all.eq_2, o_any.eq_1, o_any.eq_2, o_max.eq_1, o_max.eq_2, o_min.eq_1, o_min.eq_2, o_min3.eq_1, o_min3.eq_2, e_op3, o_repr, i_seq, nOf.eq_1, nOf.eq_2, i_rng1, i_rng2, i_rngD, rgOf.eq_1, rgOf.eq_2, i_rngV, i_num, i_zip2, i_zip, i_enum, g_n, g_nil.eq_1, g_nil.eq_2, g_cons.eq_1, g_cons.eq_2, g_tup.eq_1, g_tup.eq_2, wipeE.eq_1, wipeE.eq_2, f_lc, c_yes, s_nil, s_seq, s_brk, s_cnt, s_set, s_own, s_rng, s_unp, s_par, s_if, s_ret, s_ex, frzA.eq_1, frzA.eq_2, frzA.eq_3, frz, s_frz, ownOf.eq_1, ownOf.eq_2, s_app, s_insert, o_rev.eq_1, o_rev.eq_2, nstOf.eq_1, nstOf.eq_2, b_nix, s_sub2, s_app2, lcN.eq_1, lcN.eq_2, s_nst, s_sub, popQ, s_pop, s_popS, tup2.eq_1, tup2.eq_2, sub1, s_swp, sub2, s_swp2, f_lrng, s_for, isScr.eq_1, isScr.eq_2, s_draw, s_raise, strQ.eq_1, strQ.eq_2, intQ.eq_1, intQ.eq_2, s_raiseR, only, exM.eq_1, exM.eq_2, exM.eq_3, s_tryM, exMR.eq_1, exMR.eq_2, exMR.eq_3, s_tryMR, F_angle, startL.eq_1, startL.eq_2, startL.eq_3, start, List.set_cons_zero, List.set_cons_succ, List.getElem?_cons_zero, List.getElem?_cons_succ, List.length_cons, List.length_nil, List.cons_append, List.nil_append, List.replicate, if_true, if_false, Bool.false_eq_true, Bool.true_and, Bool.false_and, Bool.and_true, Bool.and_false, Bool.not_true, Bool.not_false, Bool.or_true, Bool.or_false, Bool.true_or, Bool.false_or, true_and, and_true, ite_self, reduceCtorEq, forL, lcL, Int.zero_add, Int.sub_zero, Int.toNat_natCast]
    refine ⟨by unfold rOk; omega, by rw [upTo_eq]; simp; omega, ?_⟩
    refine lc_fun (zF fun z => rD (gt s z.toNat * gt (rw_ m z.toNat) j)) _ [] (fun d hd Pp hP => ?_) ?_
    · rw [upTo_eq] at hd
      obtain ⟨i, hi, rfl⟩ := List.mem_map.mp hd
      rw [List.mem_range] at hi
      simp only [zF, Int.zero_add, Int.toNat_natCast] at hP
      have m1 := rw_mem (m := m) (i := i) (by rw [M.len]; omega)
      have l1 := (M.row _ m1).len
      simp only [LN, e_c, vOf.eq_1, vOf.eq_2, bOf.eq_1, bOf.eq_2, bOf.eq_3, e_v, b_v, e_f, e_op, e_un, o_add.eq_1, o_add.eq_2, o_add.eq_3, o_add.eq_4, o_add.eq_5, o_sub.eq_1, o_sub.eq_2, o_mul.eq_1, o_mul.eq_2, o_mul.eq_3, o_mul.eq_4, o_fdiv.eq_1, o_fdiv.eq_2, o_mod.eq_1, o_mod.eq_2, o_lt.eq_1, o_lt.eq_2, o_le.eq_1, o_le.eq_2, o_gt.eq_1, o_gt.eq_2, o_ge.eq_1, o_ge.eq_2, o_eq_int, o_ne_int, isNone.eq_1, isNone.eq_2, o_isN, o_notN, o_isB.eq_1, o_isB.eq_2, o_notB.eq_1, o_notB.eq_2, o_neg.eq_1, o_neg.eq_2, kOf.eq_1, kOf.eq_2, c_e, c_and, c_or, c_not, e_and, e_or, e_not, e_if, e_ch, a_nil, a_cons, isDraw.eq_1, isDraw.eq_2, a_draw, e_tup, listOf.eq_1, listOf.eq_2, f_op, f_lst, e_call, oOf.eq_1, oOf.eq_2, o_ix.eq_1, o_ix.eq_2, o_ix.eq_3, iOf.eq_1, iOf.eq_2, p_none, p_some, o_sl.eq_1, o_sl.eq_2, o_sl.eq_3, e_sl, o_len.eq_1, o_len.eq_2, o_len.eq_3, o_len.eq_4, o_abs.eq_1, o_abs.eq_2, o_int.eq_1, o_int.eq_2, o_int.eq_3, isTy.eq_1, isTy.eq_2, isTy.eq_3, isTy.eq_4, isTy.eq_5, isTy.eq_6, isTy.eq_7, o_isin, o_tuple.eq_1, o_tuple.eq_2, o_tuple.eq_3, seqQ.eq_1, seqQ.eq_2, seqQ.eq_3, f_list, someOf.eq_1, someOf.eq_2, o_sum, o_maxS, o_minS, o_all.eq_1, o_all.eq_2, o_any.eq_1, o_any.eq_2, o_max.eq_1, o_max.eq_2, o_min.eq_1, o_min.eq_2, o_min3.eq_1, o_min3.eq_2, e_op3, o_repr, i_seq, nOf.eq_1, nOf.eq_2, i_rng1, i_rng2, i_rngD, rgOf.eq_1, rgOf.eq_2, i_rngV, i_num, i_zip2, i_zip, i_enum, g_n, g_nil.eq_1, g_nil.eq_2, g_cons.eq_1, g_cons.eq_2, g_tup.eq_1, g_tup.eq_2, wipeE.eq_1, wipeE.eq_2, f_lc, c_yes, s_nil, s_seq, s_brk, s_cnt, s_set, s_own, s_rng, s_unp, s_par, s_if, s_ret, s_ex, frzA.eq_1, frzA.eq_2, frzA.eq_3, frz, s_frz, ownOf.eq_1, ownOf.eq_2, s_app, s_insert, o_rev.eq_1, o_rev.eq_2, nstOf.eq_1, nstOf.eq_2, b_nix, s_sub2, s_app2, lcN.eq_1, lcN.eq_2, s_nst, s_sub, popQ, s_pop, s_popS, tup2.eq_1, tup2.eq_2, sub1, s_swp, sub2, s_swp2, f_lrng, s_for, isScr.eq_1, isScr.eq_2, s_draw, s_raise, strQ.eq_1, strQ.eq_2, intQ.eq_1, intQ.eq_2, s_raiseR, only, exM.eq_1, exM.eq_2, exM.eq_3, s_tryM, exMR.eq_1, exMR.eq_2, exMR.eq_3, s_tryMR, F_angle, startL.eq_1, startL.eq_2, startL.eq_3, start, List.set_cons_zero, List.set_cons_succ, List.getElem?_cons_zero, List.getElem?_cons_succ, List.length_cons, List.length_nil, List.cons_append, List.nil_append, List.replicate, if_true, if_false, Bool.false_eq_true, Bool.true_and, Bool.false_and, Bool.and_true, Bool.and_false, Bool.not_true, Bool.not_false, Bool.or_true, Bool.or_false, Bool.true_or, Bool.false_or, true_and, and_true, ite_self, reduceCtorEq, forL, lcL, Int.zero_add, at_tR (show i < s.length by omega), at_mD (show i < m.length by rw [M.len]; omega), tR, at_tR (show j < (rw_ m i).length by omega)]
      exact p_law_times (hB _ (gt_mem (by omega))) (M.sz m1 (gt_mem (by omega))) (by omega) hP
    · have e : (upTo 0 n).map (zF fun z => rD (gt s z.toNat * gt (rw_ m z.toNat) j)) = ((List.range n).map fun i => gt s i * gt (rw_ m i) j).map rD := by
        rw [upTo_eq, List.map_map, List.map_map]
        refine List.map_congr_left fun j _ => ?_
        simp [Function.comp, zF]
      rw [List.nil_append, e]
      refine p_law_sum true _ (B := B + 10) (fun q hq => ?_) ?_ hP
      · obtain ⟨i, hi, rfl⟩ := List.mem_map.mp hq
        rw [List.mem_range] at hi
        have m1 := rw_mem (m := m) (i := i) (by rw [M.len]; omega)
        exact sz_mul (hB _ (gt_mem (by omega))) (M.sz m1 (gt_mem (by rw [(M.row _ m1).len]; omega)))
      · rw [List.length_map, List.length_range]
        exact Nat.le_trans (Nat.add_le_add_left (Nat.mul_le_mul_right _ M.hi) 1) hb
  · have e : (upTo 0 n).map (zF fun z => rD (sumR n fun i => gt s i * gt (rw_ m i) z.toNat)) = (step n m s).map rD := by
      rw [upTo_eq, List.map_map, step, List.map_map]
      refine List.map_congr_left fun j _ => ?_
      simp [Function.comp, zF]
    rw [List.nil_append, e]
    exact hQ
/-- a datum's fractions, with small numbers -/
def fracOk (d : D) : Prop := small 10 d ∧ ∀ ds, d = .tuple ds → ∀ e ∈ ds, ∀ a b : Int, e = .tuple [.int a, .int b] → b.natAbs < 2 ^ 4000
theorem fracOk_of {d : D} (h : rowB 10 d = true) : fracOk d := by
  refine ⟨small_of h, fun ds e x hx a b e2 => ?_⟩
  subst e
  have := List.all_eq_true.mp h x hx
  subst e2
  simp only [prB, Bool.and_eq_true, decide_eq_true_eq] at this
  exact Nat.lt_of_lt_of_le this.2 (two_le (by decide))
theorem rowB_of {s : List Rat} (h : ∀ q ∈ s, sz 10 q) : ∀ d ∈ s.map rD, prB 10 d = true := by
  intro d hd
  obtain ⟨q, hq, rfl⟩ := List.mem_map.mp hd
  have := h q hq
  simp only [prB, rD, Bool.and_eq_true, decide_eq_true_eq, Int.natAbs_natCast]
  exact this
theorem rowB_tR {s : List Rat} (h : ∀ q ∈ s, sz 10 q) : rowB 10 (tR s) = true := List.all_eq_true.mpr (rowB_of h)
theorem rowB_rep {d : D} (n : Nat) (h : prB 10 d = true) : rowB 10 (.tuple (List.replicate n d)) = true :=
  List.all_eq_true.mpr fun e he => by rw [(List.mem_replicate.mp he).2]; exact h
theorem prB_tR (r : List Rat) : prB 10 (tR r) = true := by
  match r with
  | [] => rfl
  | [_] => rfl
  | [_, _] => rfl
  | _ :: _ :: _ :: _ => rfl
theorem rowB_mD (m : List (List Rat)) : rowB 10 (mD m) = true := List.all_eq_true.mpr fun e he => by
  obtain ⟨r, _, rfl⟩ := List.mem_map.mp he
  exact prB_tR r
theorem cut_from (xs : List D) (j : Nat) (h : j ≤ xs.length) : cut xs (some (j : Int)) none = xs.drop j := by
  simp only [cut, clampIx]
  rw [if_pos (by omega), Int.toNat_natCast, Nat.min_eq_left h]
  rw [List.take_of_length_le]
  rw [List.length_drop]; omega
theorem set_moves {n a : Nat} {m : List (List Rat)} {qs : List Rat} (M : Moves n m) (S : Shares n qs) (hb : bd 31 qs) : Moves n (m.set a qs) := by
  refine ⟨M.lo, M.hi, by rw [List.length_set, M.len], fun r hr => ?_, fun r hr q hq => ?_⟩
  · rcases List.mem_or_eq_of_mem_set hr with hr | rfl
    · exact M.row r hr
    · exact S
  · rcases List.mem_or_eq_of_mem_set hr with hr | rfl
    · exact M.den r hr q hq
    · exact Nat.le_trans (hb.le q hq) (by decide)
theorem unif_sz {n : Nat} (h : 0 < n) (h6 : n ≤ 6) : ∀ q ∈ unif n, sz 10 q := fun q hq => by
  have S := unif_shares h
  refine sz_unit (S.pos q hq) (S.le_one hq) ?_
  rw [(List.mem_replicate.mp hq).2]
  have := divInt_den_le 1 (n : Int) (by omega)
  omega

theorem p_law_is_objection {n : Nat} {m : List (List Rat)} (M : Moves n m) {d : D} (hf : rowB 10 d = true) {Q : D → Prop} {x : EX} (h : Q (.bool (tkB n m d))) : c_law_is_objection [mD m, d] Q x := by
  (refine ⟨rfl, ?_⟩; unfold T_law_is_objection; simp only [start, startL, List.length_cons, List.length_nil, Nat.reduceAdd, Nat.reduceSub, List.replicate, List.cons_append, List.nil_append])
  have hhi := M.hi
  have hlo := M.lo
  have fo := fracOk_of hf
  have el : ∀ Q : D → Prop, o_len (mD m) Q = Q (.int n) := fun Q => by simp only [mD, o_len, List.length_map, M.len]
  cases d with
  | tuple ds =>
    refine seq_go fun U hU => ?_
    dsimp! [isTy, el]
    by_cases hlen : ds.length = n
    · subst hlen
      have e0 : (!((ds.length : Int) == (ds.length : Int))) = false := by simp
      dsimp! [e0]
      refine ⟨by omega, ?_⟩
      refine lc_fun (fun d => .bool (isRatB d)) ds [] (fun d hd P hP => ?_) ?_
      · dsimp!
        exact p_law_is_fraction d (B := 4000) (fun a b e => fo.2 ds rfl d hd a b e) (by decide) hP
      · rw [List.nil_append, boolsOf_map isRatB ds]
        have ea : (ds.map isRatB).all id = ds.all isRatB := by rw [List.all_map]; rfl
        dsimp! [someOf, Option.map, ea]
        by_cases hall : ds.all isRatB = true
        · have e := ratsOf_all hall
          dsimp! [hall]
          (refine hU _ ?_; clear hU U)
          refine seq_go fun U hU => ?_
          dsimp!
          refine ⟨by omega, ?_⟩
          refine lc_fun (fun d => .bool (match ratOf d with | some q => decide (q < 0) | none => false)) ds [] (fun d hd P hP => ?_) ?_
          · obtain ⟨q, rfl⟩ := (isRat_iff d).mp (List.all_eq_true.mp hall d hd)
            rw [ratOf_rD] at hP
            dsimp! [ix_rD0]
            have : decide (q.num < 0) = decide (q < 0) := by rw [decide_eq_decide]; rw [← Rat.not_le, ← Rat.num_nonneg]; omega
            rw [this]; exact hP
          · rw [List.nil_append, boolsOf_map (fun d => match ratOf d with | some q => decide (q < 0) | none => false) ds]
            have hpos : (ds.map fun d => match ratOf d with | some q => decide (q < 0) | none => false).any id = !(ratsOf ds).all fun q => decide (0 ≤ q) := by
              rw [e, ratsOf_map, List.map_map, List.any_map, List.not_all_eq_any_not]
              congr 1
              funext q
              simp only [Function.comp, ratOf_rD, id]
              rw [← decide_not, decide_eq_decide]
              exact Rat.not_le.symm
            unfold tkB at h
            simp only [fitsB, fitsL, hall, decide_true, Bool.true_and] at h
            dsimp! [someOf, Option.map, hpos]
            by_cases hp : ((ratsOf ds).all fun q => decide (0 ≤ q)) = true
            · rw [hp] at h
              dsimp! [hp]
              have hs' : ∀ q ∈ ratsOf ds, sz 10 q := fun q hq => fo.1 (rD q) (by rw [e]; exact List.mem_map.mpr ⟨q, hq, rfl⟩) q rfl
              have ll : (ratsOf ds).length = ds.length := by
                have := congrArg List.length e
                rw [List.length_map] at this
                exact this.symm
              have k1 : (PyData.tuple [.int 1, .int 1]) = rD 1 := rfl
              have e2 : PyData.tuple ds = tR (ratsOf ds) := by unfold tR; rw [← e]
              have e3 : seqOf false ((ratsOf ds).map rD) = tR (ratsOf ds) := rfl
              rw [e2, k1, ← e3]
              refine p_law_sum false (ratsOf ds) hs' (by rw [ll]; omega) ⟨by decide, ?_⟩
              rw [e3]
              have ne : ∀ {Q : D → Prop}, Q (.bool (!decide ((ratsOf ds).sum = 1))) → o_ne (rD (ratsOf ds).sum) (rD 1) Q := fun {Q} hQ => by
                have h1 : o_eq (rD (ratsOf ds).sum) (rD 1) (fun v => v = .bool (decide ((ratsOf ds).sum = 1))) := p_eq_rD rfl
                obtain ⟨a, b⟩ := h1
                refine ⟨a, ?_⟩
                have b' : PyData.eqv (rD (ratsOf ds).sum) (rD 1) = decide ((ratsOf ds).sum = 1) := by injection b
                rw [b']; exact hQ
              refine ne ?_
              by_cases hsum : (ratsOf ds).sum = 1
              · dsimp! [hsum]
                (refine hU _ ?_; clear hU U)
                dsimp!
                have S : Shares ds.length (ratsOf ds) := ⟨ll, fun q hq => of_decide_eq_true (List.all_eq_true.mp hp q hq), hsum⟩
                have e2' : e2 = e2 := rfl
                refine p_law_after2 M ll hs' (by decide) ?_
                refine p_law_as_even (A := 1 + 6 * (10 + 11)) (B := 10) (step_sz M ll hs') hs' (by rw [step_len]; omega) (by rw [step_len]; exact hhi) (by rw [ll]; exact hhi) (by decide) ?_
                simp only [hsum, decide_true, Bool.true_and, Bool.and_true] at h
                dsimp!
                exact h
              · have hd : decide ((ratsOf ds).sum = 1) = false := by simpa using hsum
                simp only [hd, Bool.and_false, Bool.false_and, Bool.true_and] at h
                dsimp! [hd]
                exact h
            · have hp' : ((ratsOf ds).all fun q => decide (0 ≤ q)) = false := by simpa using hp
              simp only [hp', Bool.false_and] at h
              dsimp! [hp']
              exact h
        · have hall' : ds.all isRatB = false := by simpa using hall
          dsimp! [hall']
          unfold tkB at h
          simp only [fitsB, fitsL, hall', Bool.false_and, Bool.and_false] at h
          exact h
    · have e0 : (!((ds.length : Int) == (n : Int))) = true := by simp; omega
      dsimp! [e0]
      unfold tkB at h
      rw [fits_len hlen, Bool.false_and] at h
      exact h
  | _ => refine seq_go fun U hU => ?_; dsimp! [isTy]; exact h
theorem told_odd {w : Int} (h0 : 0 ≤ w) (h1 : w < 2) {o : D} (ho : odd o) {Q : D → Prop} {x : EX} (h : Q MAL) : c_law_told [.int w, o] Q x := by
  have : w = 0 ∨ w = 1 := by omega
  (refine ⟨rfl, ?_⟩; unfold T_law_told; simp only [start, startL, List.length_cons, List.length_nil, Nat.reduceAdd, Nat.reduceSub, List.replicate, List.cons_append, List.nil_append])
  rcases this with rfl | rfl
  · dsimp!; exact p_mixing_odd ho (by dsimp!; exact h)
  · dsimp!; exact p_takes_odd ho (by dsimp!; exact h)
theorem rowB_flat {d : D} (n : Nat) (h : prB 10 d = true) (k : Nat) : rowB 10 (.tuple (List.replicate k [d]).flatten) = true := by
  rw [rep_flat]; exact rowB_rep k h
theorem rowB_app {xs ys : List D} (h1 : rowB 10 (.tuple xs) = true) (h2 : rowB 10 (.tuple ys) = true) : rowB 10 (.tuple (xs ++ ys)) = true :=
  List.all_eq_true.mpr fun e he => (List.mem_append.mp he).elim (List.all_eq_true.mp h1 e) (List.all_eq_true.mp h2 e)
theorem for_preD {g : uG} {b : uS} {K : Ends} (I : List D → Env → Prop) (l : List D) {ρ : Env}
    (h : ∀ pre a post ρ (N : Env → Prop), l = pre ++ a :: post → I pre ρ → (∀ ρ', I (pre ++ [a]) ρ' → N ρ') → g a ρ (fun ρ' => b { K with nx := N, ct := N, bk := K.nx } ρ'))
    (h0 : I [] ρ) (he : ∀ ρ, I l ρ → K.nx ρ) : forL g b K l ρ := by
  have := for_pre (g := g) (b := b) (K := K) (fun d => d) I l h h0 he
  rwa [List.map_id'] at this
theorem law_true : lawOk 17 T_law := by
  unfold lawOk T_law
  simp only [List.replicate]
  refine seq_go fun U hU => ?_
  dsimp!
  (refine hU _ ?_; clear hU U)
  refine seq_mid (fun ρ => ∃ (n : Nat) (m : List (List Rat)) (y2 y3 y5 y6 y7 y8 y9 y10 y11 y12 : Sl), Moves n m ∧ ρ = [.scr, .draw, y2, y3, .val (mD m), y5, y6, y7, y8, y9, y10, y11, y12, .emp, .emp, .emp, .emp]) (fun N hN => ?_) ?_
  · simp only [s_for, i_rng1, e_c, nOf]
    refine ⟨by unfold rOk; omega, ?_⟩
    refine for_up (fun k ρ => ∃ (y2 y3 y4 y5 y6 y7 y8 y9 y10 y11 y12 : Sl), ρ = [.scr, .draw, y2, y3, y4, y5, y6, y7, y8, y9, y10, y11, y12, .emp, .emp, .emp, .emp] ∧ (0 < k → ∃ n m, Moves n m ∧ y4 = .val (mD m))) 3 0 ?step ⟨_, _, _, _, _, _, _, _, _, _, _, rfl, fun h => absurd h (by decide)⟩ ?fin
    case fin =>
      rintro ρ ⟨y2, y3, y4, y5, y6, y7, y8, y9, y10, y11, y12, rfl, h⟩
      obtain ⟨n, m, M, rfl⟩ := h (by decide)
      exact hN _ ⟨n, m, _, _, _, _, _, _, _, _, _, _, M, rfl⟩
    case step =>
      rintro k ρ N1 hk ⟨y2, y3, y4, y5, y6, y7, y8, y9, y10, y11, y12, rfl, _⟩ hN1
      simp only [g_n.eq_1, List.set_cons_zero, List.set_cons_succ]
      refine seq_mid (fun ρ => ∃ (y2 : Sl) (r : Int), ρ = [.scr, .draw, y2, .val (.int r), y4, y5, y6, y7, y8, y9, y10, y11, y12, .emp, .emp, .emp, .emp]) (fun N hN => ?_) ?_
      · dsimp!
        exact p_take (by decide) (by decide) fun r _ _ => hN _ ⟨_, r, rfl⟩
      clear y2
      rintro ρ ⟨y2, r, rfl⟩
      refine seq_mid (fun ρ => ∃ (n : Nat) (m : List (List Rat)), Moves n m ∧ (∀ r ∈ m, bd 31 r) ∧ ρ = [.scr, .draw, y2, .val (.int r), .val (mD m), y5, y6, y7, y8, y9, y10, y11, y12, .emp, .emp, .emp, .emp]) (fun N hN => ?_) ?_
      · dsimp!
        split
        · exact p_law_moves fun n m M hb => hN _ ⟨n, m, M, hb, rfl⟩
        · exact p_law_mixed fun n m M hb => hN _ ⟨n, m, M, hb, rfl⟩
      rintro ρ ⟨n, m, M, hb, rfl⟩
      have hhi := M.hi
      have hlo := M.lo
      refine seq_mid (fun ρ => ρ = [.scr, .draw, y2, .val (.int r), .val (mD m), .val (.int n), y6, y7, y8, y9, y10, y11, y12, .emp, .emp, .emp, .emp]) (fun N hN => ?_) ?_
      · dsimp! [mD, List.length_map, M.len]
        exact hN _ rfl
      rintro ρ rfl
      refine seq_mid (fun ρ => ∃ (m : List (List Rat)) (y6 : Sl), Moves n m ∧ ρ = [.scr, .draw, y2, .val (.int r), .val (mD m), .val (.int n), y6, y7, y8, y9, y10, y11, y12, .emp, .emp, .emp, .emp]) (fun N hN => ?_) ?_
      · refine if_any (fun Q hQ => ?_) ?_ ?_
        · dsimp!
          exact hQ _
        · dsimp!
          refine p_take (by omega) (by omega) fun a a0 a1 => ?_
          obtain ⟨a, rfl⟩ : ∃ k : Nat, a = k := ⟨a.toNat, by omega⟩
          have hcf : cut (m.map tR) (some ((a : Int) + 1)) none = (m.map tR).drop (a + 1) := cut_from (m.map tR) (a + 1) (by rw [List.length_map, M.len]; omega)
          refine p_law_shares (by omega) hhi fun qs S b => ?_
          dsimp! [mD, cut_take, hcf]
          have e : (m.map tR).take a ++ [tR qs] ++ (m.map tR).drop (a + 1) = (m.set a qs).map tR := by
            rw [List.map_set, List.set_eq_take_append_cons_drop, if_pos (by rw [List.length_map, M.len]; omega), List.append_assoc]
            rfl
          have l1 : ((m.map tR).take a).length ≤ 6 := by rw [List.length_take, List.length_map, M.len]; omega
          have l2 : ((m.map tR).drop (a + 1)).length ≤ 6 := by rw [List.length_drop, List.length_map, M.len]; omega
          refine ⟨by decide, by omega, by rw [List.length_append]; simp only [List.length_cons, List.length_nil]; omega, ?_⟩
          rw [e]
          exact hN _ ⟨_, _, set_moves M S b, rfl⟩
        · exact hN _ ⟨m, _, M, rfl⟩
      clear M hb
      clear y6
      rintro ρ ⟨m, y6, M, rfl⟩
      refine seq_go fun U hU => ?_
      dsimp!
      refine p_is_moves (mD m) M.small (by decide) ?_
      rw [M.is]
      dsimp!
      (refine hU _ ?_; clear hU U)
      refine seq_mid (fun ρ => ρ = [.scr, .draw, y2, .val (.int r), .val (mD m), .val (.int n), y6, .val (.bool (mixB n m)), y8, y9, y10, y11, y12, .emp, .emp, .emp, .emp]) (fun N hN => ?_) ?_
      · dsimp!
        refine ⟨by unfold rOk; omega, ?_⟩
        rw [Int.toNat_natCast, upTo0]
        refine ⟨by simp; omega, ?_⟩
        refine lc_map (fun k : Nat => .int (k : Int)) (fun j => .bool (decide (colS m j = 1))) _ [] (fun j hj P hP => ?_) ?_
        · rw [List.mem_range] at hj
          dsimp! [mD, List.length_map, M.len]
          refine ⟨by omega, ?_⟩
          refine lc_map tR (fun r => rD (gt r j)) m [] (fun r hr P hP => ?_) ?_
          · dsimp! [tR, at_tR (show j < r.length by rw [(M.row r hr).len]; exact hj)]
            exact hP
          · have e : (m.map fun r => rD (gt r j)) = (m.map fun r => gt r j).map rD := by rw [List.map_map]; rfl
            rw [List.nil_append, e]
            obtain ⟨c1, c2⟩ := col_sz M hj
            refine p_law_sum true _ c1 c2 ⟨by decide, ?_⟩
            exact p_eq_rD (b := 1) hP
        · rw [List.nil_append, boolsOf_map (fun j => decide (colS m j = 1))]
          dsimp! [someOf]
          have e : ((List.range n).map fun j => decide (colS m j = 1)).all id = mixB n m := by rw [List.all_map]; rfl
          rw [e]
          exact hN _ rfl
      rintro ρ rfl
      let told : D := if mixB n m = true then .none else tR (unif n)
      have hnp : 0 < n := by omega
      have rt : rowB 10 told = true := by
        simp only [told]
        split
        · rfl
        · exact rowB_tR (unif_sz hnp hhi)
      refine seq_mid (fun ρ => ρ = [.scr, .draw, y2, .val (.int r), .val (mD m), .val (.int n), y6, .val (.bool (mixB n m)), .val told, y9, y10, y11, y12, .emp, .emp, .emp, .emp]) (fun N hN => ?_) ?_
      · dsimp!
        exact p_mixing_objection M (hN _ rfl)
      rintro ρ rfl
      refine seq_mid (fun ρ => ρ = [.scr, .draw, y2, .val (.int r), .val (mD m), .val (.int n), y6, .val (.bool (mixB n m)), .val told, y9, y10, y11, y12, .emp, .emp, .emp, .emp]) (fun N hN => ?_) ?_
      · cases hm : mixB n m with
        | true =>
          have et : told = .none := by simp only [told, hm, if_true]
          rw [hm, et] at hN
          rw [et]
          dsimp! [isNone]
          refine bool_ne _ _ ?_
          dsimp!
          exact hN _ rfl
        | false =>
          have et : told = tR (unif n) := by simp only [told, hm, Bool.false_eq_true, if_false]
          rw [hm] at hN
          have rt' := rt
          rw [et] at hN rt'
          rw [et]
          have hno : isNone (tR (unif n)) = false := rfl
          dsimp! [hno]
          refine bool_ne _ _ ?_
          dsimp!
          refine p_law_is_objection M rt' ?_
          rw [unif_obj M hm]
          dsimp!
          exact hN _ rfl
      rintro ρ rfl
      have m0 := rw_mem (m := m) (i := 0) (by rw [M.len]; omega)
      have a0 : at_ (m.map tR) 0 = some (tR (rw_ m 0)) := at_mD (i := 0) (by rw [M.len]; omega)
      have i0 : ∀ Q : D → Prop, o_ix (mD m) (.int 0) Q = Q (tR (rw_ m 0)) := fun Q => by simp only [mD, o_ix, a0, oOf]
      let PL' : Nat → Env → Prop := fun b ρ => ∃ (L : List D) (y10 : Sl), L.length = b ∧ (∀ d ∈ L, rowB 10 d = true) ∧ ρ = [.scr, .draw, y2, .val (.int r), .val (mD m), .val (.int n), y6, .val (.bool (mixB n m)), .val told, .own L, y10, y11, y12, .emp, .emp, .emp, .emp]
      refine seq_mid (PL' 11) (fun N hN => ?_) ?_
      · dsimp! [i0]
        refine ⟨by decide, ?_⟩
        show _ ∧ _
        refine ⟨by decide, by decide, by omega, by decide, by decide, by omega, by decide, by decide, by decide, by decide, by decide, by decide, by decide, by decide, by omega, by rw [rep_flat]; simp; omega, by decide, by omega, by decide, hN _ ⟨_, _, rfl, ?_, rfl⟩⟩
        simp only [List.forall_mem_cons]
        refine ⟨rt, rfl, rfl, rowB_mD m, rowB_tR fun q hq => M.sz m0 hq, rfl, rowB_flat n ?_ _, rowB_flat n rfl _, rowB_flat 2 rfl _, rowB_app (xs := [PyData.tuple [.int 2, .int 1], .tuple [.int (-1), .int 1]]) rfl (rowB_flat n rfl _), rowB_flat n rfl _, fun _ h => by cases h⟩
        simp only [prB, Bool.and_eq_true, decide_eq_true_eq]
        omega
      rintro ρ ⟨L, y10', hL, hr, rfl⟩
      refine seq_mid (PL' 15) (fun N hN => ?_) ?_
      · simp only [s_for, i_rng1, e_c, nOf]
        refine ⟨by unfold rOk; omega, ?_⟩
        refine for_up (fun k ρ => PL' (11 + k) ρ) 4 0 (fun k ρ N2 hk => ?_) ⟨L, y10', hL, hr, rfl⟩ (fun ρ h => hN ρ h)
        rintro ⟨L, y10', hL, hr, rfl⟩ hN2
        dsimp!
        refine p_law_shares (by omega) hhi fun qs S b => ⟨by omega, hN2 _ ⟨_, _, by simp [hL]; omega, all_app hr ?_, rfl⟩⟩
        simp only [List.forall_mem_cons]
        exact ⟨rowB_tR fun q hq => (sz_unit (S.pos q hq) (S.le_one hq) (Nat.lt_of_le_of_lt (b.le q hq) (by decide)) : sz 5 q).mono (by decide), fun _ h => by cases h⟩
      clear hr hL L
      rintro ρ ⟨L, y10', hL, hr, rfl⟩
      refine seq_mid (PL' 16) (fun N hN => ?_) ?_
      · dsimp!
        have e5 : (n : Int).fmod 5 = ((n % 5 : Nat) : Int) := by
          rw [Int.fmod_eq_emod_of_nonneg _ (by decide)]; simp
        refine ⟨by decide, ?_⟩
        rw [e5]
        have e6 : ((n % 5 : Nat) : Int) + 2 = ((n % 5 + 2 : Nat) : Int) := by omega
        rw [e6]
        refine p_law_shares (by omega) (by omega) fun qs S b => ⟨by omega, hN _ ⟨_, _, by simp [hL], all_app hr ?_, rfl⟩⟩
        simp only [List.forall_mem_cons]
        exact ⟨rowB_tR fun q hq => (sz_unit (S.pos q hq) (S.le_one hq) (Nat.lt_of_le_of_lt (b.le q hq) (by decide)) : sz 5 q).mono (by decide), fun _ h => by cases h⟩
      clear hr hL L
      rintro ρ ⟨L, y10', hL, hr, rfl⟩
      dsimp!
      refine for_preD (fun _ ρ => ∃ (y11 y12 : Sl), ρ = [.scr, .draw, y2, .val (.int r), .val (mD m), .val (.int n), y6, .val (.bool (mixB n m)), .val told, .val (.list L), y10', y11, y12, .emp, .emp, .emp, .emp]) L (fun pre v post ρ N2 e h hN2 => ?_) ⟨_, _, rfl⟩ (fun ρ h => ?_)
      · obtain ⟨y11, y12, rfl⟩ := h
        have hv : rowB 10 v = true := hr v (by rw [e]; simp)
        simp only [g_n.eq_1, List.set_cons_zero, List.set_cons_succ]
        refine seq_go fun U hU => ?_
        dsimp!
        refine p_law_is_objection M hv ?_
        (refine hU _ ?_; clear hU U)
        dsimp!
        refine p_takes M (small_of hv) (p_law_says _ _ ?_)
        have e1 : (tkB n m v == tkB n m v) = true := by simp
        rw [e1]
        dsimp!
        cases hm : mixB n m with
        | true =>
          dsimp! [mix_none M hm v]
          have := hN2
          rw [hm] at this
          exact this _ ⟨_, _, rfl⟩
        | false =>
          dsimp!
          have := hN2
          rw [hm] at this
          exact this _ ⟨_, _, rfl⟩
      · obtain ⟨y11, y12, rfl⟩ := h
        exact hN1 _ ⟨_, _, _, _, _, _, _, _, _, _, _, rfl, fun _ => ⟨n, m, M, rfl⟩⟩
  rintro ρ ⟨n, m, y2, y3, y5, y6, y7, y8, y9, y10, y11, y12, M, rfl⟩
  refine seq_mid (fun ρ => ∃ d, odd d ∧ ρ = [.scr, .draw, y2, y3, .val (mD m), y5, y6, y7, y8, y9, y10, y11, y12, .val d, .emp, .emp, .emp]) (fun N hN => ?_) ?_
  · dsimp!
    exact p_law_odd_moves M fun d hd => hN _ ⟨d, hd, rfl⟩
  rintro ρ ⟨d, hd, rfl⟩
  have e2 : upTo 0 (2 : Int).toNat = [.int 0, .int 1] := rfl
  dsimp!
  rw [e2]
  refine ⟨by unfold rOk; omega, by decide, lc_mals _ (fun w hw P hP => ?_) ?_⟩
  · simp only [List.mem_cons, List.not_mem_nil, or_false] at hw
    rcases hw with rfl | rfl <;> (dsimp!; exact told_odd (by decide) (by decide) hd hP)
  dsimp!
  repeat (with_reducible refine And.intro ?_ ?_; · first | decide | omega | (simp; done) | (simp; omega))
  exact eq_mals2 2 rfl rfl (by decide) rfl


end PL.M
namespace PL
open PySem PySem.Spec PyProof.Rows L2
def topS (i : Nat) : Stmt := PySem.Challenge.pw_levelpurses_k60_whole_moves_that_mix.main.body.getD i (.Pass ⟨0, 0, 0, 0⟩)
abbrev s_law_draw : Stmt := topS 27
abbrev n_law_draw : List Str := ["script", "seed", "cell"]
theorem sc_law_draw : FnScope n_law_draw ["script"] (defScope s_law_draw) := ⟨rfl, rfl, rfl, by decide +kernel, rfl, by decide +kernel, by decide +kernel⟩
abbrev s_law_take : Stmt := topS 28
abbrev n_law_take : List Str := ["draw", "many", "found"]
theorem sc_law_take : FnScope n_law_take ["draw", "many"] (defScope s_law_take) := ⟨rfl, rfl, rfl, by decide +kernel, rfl, by decide +kernel, by decide +kernel⟩
abbrev s_law_gcd : Stmt := topS 30
abbrev n_law_gcd : List Str := ["a", "b"]
theorem sc_law_gcd : FnScope n_law_gcd ["a", "b"] (defScope s_law_gcd) := ⟨rfl, rfl, rfl, by decide +kernel, rfl, by decide +kernel, by decide +kernel⟩
abbrev s_law_ratio : Stmt := topS 31
abbrev n_law_ratio : List Str := ["n", "d", "g"]
theorem sc_law_ratio : FnScope n_law_ratio ["n", "d"] (defScope s_law_ratio) := ⟨rfl, rfl, rfl, by decide +kernel, rfl, by decide +kernel, by decide +kernel⟩
abbrev s_law_shares : Stmt := topS 37
abbrev n_law_shares : List Str := ["draw", "many", "row", "at", "k", "item"]
theorem sc_law_shares : FnScope n_law_shares ["draw", "many"] (defScope s_law_shares) := ⟨rfl, rfl, rfl, by decide +kernel, rfl, by decide +kernel, by decide +kernel⟩
abbrev s_law_plus : Stmt := topS 32
abbrev n_law_plus : List Str := ["a", "b"]
theorem sc_law_plus : FnScope n_law_plus ["a", "b"] (defScope s_law_plus) := ⟨rfl, rfl, rfl, by decide +kernel, rfl, by decide +kernel, by decide +kernel⟩
abbrev s_law_ranked : Stmt := topS 39
abbrev n_law_ranked : List Str := ["draw", "many", "left", "rows", "i", "row", "j", "low"]
theorem sc_law_ranked : FnScope n_law_ranked ["draw", "many"] (defScope s_law_ranked) := ⟨rfl, rfl, rfl, by decide +kernel, rfl, by decide +kernel, by decide +kernel⟩
abbrev s_law_moves : Stmt := topS 38
abbrev n_law_moves : List Str := ["draw", "most", "many", "kind", "rows", "i", "row", "at", "base", "part", "j", "item"]
theorem sc_law_moves : FnScope n_law_moves ["draw", "most"] (defScope s_law_moves) := ⟨rfl, rfl, rfl, by decide +kernel, rfl, by decide +kernel, by decide +kernel⟩
abbrev s_law_mixed : Stmt := topS 45
abbrev n_law_mixed : List Str := ["draw", "many", "times_v", "rows", "i", "turn", "left", "j", "item", "row"]
theorem sc_law_mixed : FnScope n_law_mixed ["draw"] (defScope s_law_mixed) := ⟨rfl, rfl, rfl, by decide +kernel, rfl, by decide +kernel, by decide +kernel⟩
abbrev s_is_whole : Stmt := topS 6
abbrev n_is_whole : List Str := ["value"]
theorem sc_is_whole : FnScope n_is_whole ["value"] (defScope s_is_whole) := ⟨rfl, rfl, rfl, by decide +kernel, rfl, by decide +kernel, by decide +kernel⟩
abbrev s_common : Stmt := topS 7
abbrev n_common : List Str := ["a", "b"]
theorem sc_common : FnScope n_common ["a", "b"] (defScope s_common) := ⟨rfl, rfl, rfl, by decide +kernel, rfl, by decide +kernel, by decide +kernel⟩
abbrev s_is_ratio : Stmt := topS 9
abbrev n_is_ratio : List Str := ["value"]
theorem sc_is_ratio : FnScope n_is_ratio ["value"] (defScope s_is_ratio) := ⟨rfl, rfl, rfl, by decide +kernel, rfl, by decide +kernel, by decide +kernel⟩
abbrev s_lowest : Stmt := topS 8
abbrev n_lowest : List Str := ["n", "d", "g"]
theorem sc_lowest : FnScope n_lowest ["n", "d"] (defScope s_lowest) := ⟨rfl, rfl, rfl, by decide +kernel, rfl, by decide +kernel, by decide +kernel⟩
abbrev s_plus : Stmt := topS 10
abbrev n_plus : List Str := ["a", "b"]
theorem sc_plus : FnScope n_plus ["a", "b"] (defScope s_plus) := ⟨rfl, rfl, rfl, by decide +kernel, rfl, by decide +kernel, by decide +kernel⟩
abbrev s_total : Stmt := topS 13
abbrev n_total : List Str := ["items", "found", "item"]
theorem sc_total : FnScope n_total ["items"] (defScope s_total) := ⟨rfl, rfl, rfl, by decide +kernel, rfl, by decide +kernel, by decide +kernel⟩
abbrev s_fits_shares : Stmt := topS 18
abbrev n_fits_shares : List Str := ["value", "many", "item"]
theorem sc_fits_shares : FnScope n_fits_shares ["value", "many"] (defScope s_fits_shares) := ⟨rfl, rfl, rfl, by decide +kernel, rfl, by decide +kernel, by decide +kernel⟩
abbrev s_is_moves : Stmt := topS 19
abbrev n_is_moves : List Str := ["value", "item", "row"]
theorem sc_is_moves : FnScope n_is_moves ["value"] (defScope s_is_moves) := ⟨rfl, rfl, rfl, by decide +kernel, rfl, by decide +kernel, by decide +kernel⟩
abbrev s_law_sum : Stmt := topS 35
abbrev n_law_sum : List Str := ["items", "found", "item"]
theorem sc_law_sum : FnScope n_law_sum ["items"] (defScope s_law_sum) := ⟨rfl, rfl, rfl, by decide +kernel, rfl, by decide +kernel, by decide +kernel⟩
abbrev s_check_moves : Stmt := topS 20
abbrev n_check_moves : List Str := ["value"]
theorem sc_check_moves : FnScope n_check_moves ["value"] (defScope s_check_moves) := ⟨rfl, rfl, rfl, by decide +kernel, rfl, by decide +kernel, by decide +kernel⟩
abbrev s_mixing_objection : Stmt := topS 24
abbrev n_mixing_objection : List Str := ["moves", "many", "row", "j"]
theorem sc_mixing_objection : FnScope n_mixing_objection ["moves"] (defScope s_mixing_objection) := ⟨rfl, rfl, rfl, by decide +kernel, rfl, by decide +kernel, by decide +kernel⟩
abbrev s_law_is_fraction : Stmt := topS 36
abbrev n_law_is_fraction : List Str := ["value", "item"]
theorem sc_law_is_fraction : FnScope n_law_is_fraction ["value"] (defScope s_law_is_fraction) := ⟨rfl, rfl, rfl, by decide +kernel, rfl, by decide +kernel, by decide +kernel⟩
abbrev s_law_less : Stmt := topS 34
abbrev n_law_less : List Str := ["a", "b"]
theorem sc_law_less : FnScope n_law_less ["a", "b"] (defScope s_law_less) := ⟨rfl, rfl, rfl, by decide +kernel, rfl, by decide +kernel, by decide +kernel⟩
abbrev s_law_in_size : Stmt := topS 42
abbrev n_law_in_size : List Str := ["row", "found", "k", "i"]
theorem sc_law_in_size : FnScope n_law_in_size ["row"] (defScope s_law_in_size) := ⟨rfl, rfl, rfl, by decide +kernel, rfl, by decide +kernel, by decide +kernel⟩
abbrev s_law_as_even : Stmt := topS 43
abbrev n_law_as_even : List Str := ["one", "two", "x", "y", "k"]
theorem sc_law_as_even : FnScope n_law_as_even ["one", "two"] (defScope s_law_as_even) := ⟨rfl, rfl, rfl, by decide +kernel, rfl, by decide +kernel, by decide +kernel⟩
abbrev s_law_times : Stmt := topS 33
abbrev n_law_times : List Str := ["a", "b"]
theorem sc_law_times : FnScope n_law_times ["a", "b"] (defScope s_law_times) := ⟨rfl, rfl, rfl, by decide +kernel, rfl, by decide +kernel, by decide +kernel⟩
abbrev s_law_after : Stmt := topS 40
abbrev n_law_after : List Str := ["moves", "shares", "many", "i", "j"]
theorem sc_law_after : FnScope n_law_after ["moves", "shares"] (defScope s_law_after) := ⟨rfl, rfl, rfl, by decide +kernel, rfl, by decide +kernel, by decide +kernel⟩
abbrev s_law_is_objection : Stmt := topS 44
abbrev n_law_is_objection : List Str := ["moves", "value", "item"]
theorem sc_law_is_objection : FnScope n_law_is_objection ["moves", "value"] (defScope s_law_is_objection) := ⟨rfl, rfl, rfl, by decide +kernel, rfl, by decide +kernel, by decide +kernel⟩
abbrev s_law_says : Stmt := topS 29
abbrev n_law_says : List Str := ["value", "due"]
theorem sc_law_says : FnScope n_law_says ["value", "due"] (defScope s_law_says) := ⟨rfl, rfl, rfl, by decide +kernel, rfl, by decide +kernel, by decide +kernel⟩
abbrev s_below : Stmt := topS 12
abbrev n_below : List Str := ["a", "b"]
theorem sc_below : FnScope n_below ["a", "b"] (defScope s_below) := ⟨rfl, rfl, rfl, by decide +kernel, rfl, by decide +kernel, by decide +kernel⟩
abbrev s_in_size : Stmt := topS 22
abbrev n_in_size : List Str := ["row", "found", "item", "other"]
theorem sc_in_size : FnScope n_in_size ["row"] (defScope s_in_size) := ⟨rfl, rfl, rfl, by decide +kernel, rfl, by decide +kernel, by decide +kernel⟩
abbrev s_is_as_even : Stmt := topS 23
abbrev n_is_as_even : List Str := ["one", "two", "x", "y", "k"]
theorem sc_is_as_even : FnScope n_is_as_even ["one", "two"] (defScope s_is_as_even) := ⟨rfl, rfl, rfl, by decide +kernel, rfl, by decide +kernel, by decide +kernel⟩
abbrev s_times : Stmt := topS 11
abbrev n_times : List Str := ["a", "b"]
theorem sc_times : FnScope n_times ["a", "b"] (defScope s_times) := ⟨rfl, rfl, rfl, by decide +kernel, rfl, by decide +kernel, by decide +kernel⟩
abbrev s_stepped : Stmt := topS 21
abbrev n_stepped : List Str := ["moves", "shares", "many", "i", "j"]
theorem sc_stepped : FnScope n_stepped ["moves", "shares"] (defScope s_stepped) := ⟨rfl, rfl, rfl, by decide +kernel, rfl, by decide +kernel, by decide +kernel⟩
abbrev s_takes_mixing_objection : Stmt := topS 25
abbrev n_takes_mixing_objection : List Str := ["moves", "value"]
theorem sc_takes_mixing_objection : FnScope n_takes_mixing_objection ["moves", "value"] (defScope s_takes_mixing_objection) := ⟨rfl, rfl, rfl, by decide +kernel, rfl, by decide +kernel, by decide +kernel⟩
abbrev s_law_odd_moves : Stmt := topS 41
abbrev n_law_odd_moves : List Str := ["draw", "moves", "many", "h", "odd", "row"]
theorem sc_law_odd_moves : FnScope n_law_odd_moves ["draw", "moves"] (defScope s_law_odd_moves) := ⟨rfl, rfl, rfl, by decide +kernel, rfl, by decide +kernel, by decide +kernel⟩
abbrev s_law_told : Stmt := topS 46
abbrev n_law_told : List Str := ["which", "moves"]
theorem sc_law_told : FnScope n_law_told ["which", "moves"] (defScope s_law_told) := ⟨rfl, rfl, rfl, by decide +kernel, rfl, by decide +kernel, by decide +kernel⟩
abbrev s_law : Stmt := topS 47
abbrev n_law : List Str := ["script", "draw", "turn", "kind", "moves", "many", "at", "mixes", "told", "values", "step", "value", "due", "odd", "row", "j", "which"]
theorem sc_law : FnScope n_law ["script"] (defScope s_law) := ⟨rfl, rfl, rfl, by decide +kernel, rfl, by decide +kernel, by decide +kernel⟩
structure Txt (P : Program) (K : PySem.W.Frag) (mg : Str → Option Value) where
  a_law_draw : Addr
  d_law_draw : FuncData
  F_law_draw : Fun K "_law_draw" "_law_draw" s_law_draw a_law_draw d_law_draw
  b_law_draw : L2.Binds K d_law_draw ["script"] []
  g_law_draw : mg "_law_draw" = some (.ref a_law_draw)
  a_law_take : Addr
  d_law_take : FuncData
  F_law_take : Fun K "_law_take" "_law_take" s_law_take a_law_take d_law_take
  b_law_take : L2.Binds K d_law_take ["draw", "many"] []
  g_law_take : mg "_law_take" = some (.ref a_law_take)
  a_law_gcd : Addr
  d_law_gcd : FuncData
  F_law_gcd : Fun K "_law_gcd" "_law_gcd" s_law_gcd a_law_gcd d_law_gcd
  b_law_gcd : L2.Binds K d_law_gcd ["a", "b"] []
  g_law_gcd : mg "_law_gcd" = some (.ref a_law_gcd)
  a_law_ratio : Addr
  d_law_ratio : FuncData
  F_law_ratio : Fun K "_law_ratio" "_law_ratio" s_law_ratio a_law_ratio d_law_ratio
  b_law_ratio : L2.Binds K d_law_ratio ["n", "d"] []
  g_law_ratio : mg "_law_ratio" = some (.ref a_law_ratio)
  a_law_shares : Addr
  d_law_shares : FuncData
  F_law_shares : Fun K "_law_shares" "_law_shares" s_law_shares a_law_shares d_law_shares
  b_law_shares : L2.Binds K d_law_shares ["draw", "many"] []
  g_law_shares : mg "_law_shares" = some (.ref a_law_shares)
  a_law_plus : Addr
  d_law_plus : FuncData
  F_law_plus : Fun K "_law_plus" "_law_plus" s_law_plus a_law_plus d_law_plus
  b_law_plus : L2.Binds K d_law_plus ["a", "b"] []
  g_law_plus : mg "_law_plus" = some (.ref a_law_plus)
  a_law_ranked : Addr
  d_law_ranked : FuncData
  F_law_ranked : Fun K "_law_ranked" "_law_ranked" s_law_ranked a_law_ranked d_law_ranked
  b_law_ranked : L2.Binds K d_law_ranked ["draw", "many"] []
  g_law_ranked : mg "_law_ranked" = some (.ref a_law_ranked)
  a_law_moves : Addr
  d_law_moves : FuncData
  F_law_moves : Fun K "_law_moves" "_law_moves" s_law_moves a_law_moves d_law_moves
  b_law_moves : L2.Binds K d_law_moves ["draw", "most"] []
  g_law_moves : mg "_law_moves" = some (.ref a_law_moves)
  a_law_mixed : Addr
  d_law_mixed : FuncData
  F_law_mixed : Fun K "_law_mixed" "_law_mixed" s_law_mixed a_law_mixed d_law_mixed
  b_law_mixed : L2.Binds K d_law_mixed ["draw"] []
  g_law_mixed : mg "_law_mixed" = some (.ref a_law_mixed)
  a_is_whole : Addr
  d_is_whole : FuncData
  F_is_whole : Fun K "is_whole" "is_whole" s_is_whole a_is_whole d_is_whole
  b_is_whole : L2.Binds K d_is_whole ["value"] []
  g_is_whole : mg "is_whole" = some (.ref a_is_whole)
  a_common : Addr
  d_common : FuncData
  F_common : Fun K "common" "common" s_common a_common d_common
  b_common : L2.Binds K d_common ["a", "b"] []
  g_common : mg "common" = some (.ref a_common)
  a_is_ratio : Addr
  d_is_ratio : FuncData
  F_is_ratio : Fun K "is_ratio" "is_ratio" s_is_ratio a_is_ratio d_is_ratio
  b_is_ratio : L2.Binds K d_is_ratio ["value"] []
  g_is_ratio : mg "is_ratio" = some (.ref a_is_ratio)
  a_lowest : Addr
  d_lowest : FuncData
  F_lowest : Fun K "lowest" "lowest" s_lowest a_lowest d_lowest
  b_lowest : L2.Binds K d_lowest ["n", "d"] []
  g_lowest : mg "lowest" = some (.ref a_lowest)
  a_plus : Addr
  d_plus : FuncData
  F_plus : Fun K "plus" "plus" s_plus a_plus d_plus
  b_plus : L2.Binds K d_plus ["a", "b"] []
  g_plus : mg "plus" = some (.ref a_plus)
  a_total : Addr
  d_total : FuncData
  F_total : Fun K "total" "total" s_total a_total d_total
  b_total : L2.Binds K d_total ["items"] []
  g_total : mg "total" = some (.ref a_total)
  a_fits_shares : Addr
  d_fits_shares : FuncData
  F_fits_shares : Fun K "fits_shares" "fits_shares" s_fits_shares a_fits_shares d_fits_shares
  b_fits_shares : L2.Binds K d_fits_shares ["value", "many"] []
  g_fits_shares : mg "fits_shares" = some (.ref a_fits_shares)
  a_is_moves : Addr
  d_is_moves : FuncData
  F_is_moves : Fun K "is_moves" "is_moves" s_is_moves a_is_moves d_is_moves
  b_is_moves : L2.Binds K d_is_moves ["value"] []
  g_is_moves : mg "is_moves" = some (.ref a_is_moves)
  a_law_sum : Addr
  d_law_sum : FuncData
  F_law_sum : Fun K "_law_sum" "_law_sum" s_law_sum a_law_sum d_law_sum
  b_law_sum : L2.Binds K d_law_sum ["items"] []
  g_law_sum : mg "_law_sum" = some (.ref a_law_sum)
  a_check_moves : Addr
  d_check_moves : FuncData
  F_check_moves : Fun K "check_moves" "check_moves" s_check_moves a_check_moves d_check_moves
  b_check_moves : L2.Binds K d_check_moves ["value"] []
  g_check_moves : mg "check_moves" = some (.ref a_check_moves)
  a_mixing_objection : Addr
  d_mixing_objection : FuncData
  F_mixing_objection : Fun K "mixing_objection" "mixing_objection" s_mixing_objection a_mixing_objection d_mixing_objection
  b_mixing_objection : L2.Binds K d_mixing_objection ["moves"] []
  g_mixing_objection : mg "mixing_objection" = some (.ref a_mixing_objection)
  a_law_is_fraction : Addr
  d_law_is_fraction : FuncData
  F_law_is_fraction : Fun K "_law_is_fraction" "_law_is_fraction" s_law_is_fraction a_law_is_fraction d_law_is_fraction
  b_law_is_fraction : L2.Binds K d_law_is_fraction ["value"] []
  g_law_is_fraction : mg "_law_is_fraction" = some (.ref a_law_is_fraction)
  a_law_less : Addr
  d_law_less : FuncData
  F_law_less : Fun K "_law_less" "_law_less" s_law_less a_law_less d_law_less
  b_law_less : L2.Binds K d_law_less ["a", "b"] []
  g_law_less : mg "_law_less" = some (.ref a_law_less)
  a_law_in_size : Addr
  d_law_in_size : FuncData
  F_law_in_size : Fun K "_law_in_size" "_law_in_size" s_law_in_size a_law_in_size d_law_in_size
  b_law_in_size : L2.Binds K d_law_in_size ["row"] []
  g_law_in_size : mg "_law_in_size" = some (.ref a_law_in_size)
  a_law_as_even : Addr
  d_law_as_even : FuncData
  F_law_as_even : Fun K "_law_as_even" "_law_as_even" s_law_as_even a_law_as_even d_law_as_even
  b_law_as_even : L2.Binds K d_law_as_even ["one", "two"] []
  g_law_as_even : mg "_law_as_even" = some (.ref a_law_as_even)
  a_law_times : Addr
  d_law_times : FuncData
  F_law_times : Fun K "_law_times" "_law_times" s_law_times a_law_times d_law_times
  b_law_times : L2.Binds K d_law_times ["a", "b"] []
  g_law_times : mg "_law_times" = some (.ref a_law_times)
  a_law_after : Addr
  d_law_after : FuncData
  F_law_after : Fun K "_law_after" "_law_after" s_law_after a_law_after d_law_after
  b_law_after : L2.Binds K d_law_after ["moves", "shares"] []
  g_law_after : mg "_law_after" = some (.ref a_law_after)
  a_law_is_objection : Addr
  d_law_is_objection : FuncData
  F_law_is_objection : Fun K "_law_is_objection" "_law_is_objection" s_law_is_objection a_law_is_objection d_law_is_objection
  b_law_is_objection : L2.Binds K d_law_is_objection ["moves", "value"] []
  g_law_is_objection : mg "_law_is_objection" = some (.ref a_law_is_objection)
  a_law_says : Addr
  d_law_says : FuncData
  F_law_says : Fun K "_law_says" "_law_says" s_law_says a_law_says d_law_says
  b_law_says : L2.Binds K d_law_says ["value", "due"] []
  g_law_says : mg "_law_says" = some (.ref a_law_says)
  a_below : Addr
  d_below : FuncData
  F_below : Fun K "below" "below" s_below a_below d_below
  b_below : L2.Binds K d_below ["a", "b"] []
  g_below : mg "below" = some (.ref a_below)
  a_in_size : Addr
  d_in_size : FuncData
  F_in_size : Fun K "in_size" "in_size" s_in_size a_in_size d_in_size
  b_in_size : L2.Binds K d_in_size ["row"] []
  g_in_size : mg "in_size" = some (.ref a_in_size)
  a_is_as_even : Addr
  d_is_as_even : FuncData
  F_is_as_even : Fun K "is_as_even" "is_as_even" s_is_as_even a_is_as_even d_is_as_even
  b_is_as_even : L2.Binds K d_is_as_even ["one", "two"] []
  g_is_as_even : mg "is_as_even" = some (.ref a_is_as_even)
  a_times : Addr
  d_times : FuncData
  F_times : Fun K "times" "times" s_times a_times d_times
  b_times : L2.Binds K d_times ["a", "b"] []
  g_times : mg "times" = some (.ref a_times)
  a_stepped : Addr
  d_stepped : FuncData
  F_stepped : Fun K "stepped" "stepped" s_stepped a_stepped d_stepped
  b_stepped : L2.Binds K d_stepped ["moves", "shares"] []
  g_stepped : mg "stepped" = some (.ref a_stepped)
  a_takes_mixing_objection : Addr
  d_takes_mixing_objection : FuncData
  F_takes_mixing_objection : Fun K "takes_mixing_objection" "takes_mixing_objection" s_takes_mixing_objection a_takes_mixing_objection d_takes_mixing_objection
  b_takes_mixing_objection : L2.Binds K d_takes_mixing_objection ["moves", "value"] []
  g_takes_mixing_objection : mg "takes_mixing_objection" = some (.ref a_takes_mixing_objection)
  a_law_odd_moves : Addr
  d_law_odd_moves : FuncData
  F_law_odd_moves : Fun K "_law_odd_moves" "_law_odd_moves" s_law_odd_moves a_law_odd_moves d_law_odd_moves
  b_law_odd_moves : L2.Binds K d_law_odd_moves ["draw", "moves"] []
  g_law_odd_moves : mg "_law_odd_moves" = some (.ref a_law_odd_moves)
  a_law_told : Addr
  d_law_told : FuncData
  F_law_told : Fun K "_law_told" "_law_told" s_law_told a_law_told d_law_told
  b_law_told : L2.Binds K d_law_told ["which", "moves"] []
  g_law_told : mg "_law_told" = some (.ref a_law_told)
  a_law : Addr
  d_law : FuncData
  F_law : Fun K "law" "law" s_law a_law d_law
  i_law : ∀ (s : Shared) (u : Value), BindsTo s d_law ⟨[u], []⟩ [("script", u)]
  b_law : L2.Binds K d_law ["script"] []
  g_law : mg "law" = some (.ref a_law)
  z_abs : mg "abs" = none
  z_all : mg "all" = none
  z_any : mg "any" = none
  z_bool : mg "bool" = none
  z_int : mg "int" = none
  z_isinstance : mg "isinstance" = none
  z_len : mg "len" = none
  z_list : mg "list" = none
  z_max : mg "max" = none
  z_min : mg "min" = none
  z_range : mg "range" = none
  z_sum : mg "sum" = none
  z_tuple : mg "tuple" = none
  k_ZERO : GlobC K mg "ZERO" PL.k_ZERO
  k_ONE : GlobC K mg "ONE" PL.k_ONE
  k_FEWEST_CLASSES : GlobC K mg "FEWEST_CLASSES" PL.k_FEWEST_CLASSES
  k_MOST_CLASSES : GlobC K mg "MOST_CLASSES" PL.k_MOST_CLASSES
  k_MOST_LOWER : GlobC K mg "MOST_LOWER" PL.k_MOST_LOWER
  cM : Addr
  xM : PySem.W.excIn K cM [.type "ValueError", .type "Exception", .type "BaseException", .type "object"] "ValueError.__new__" = true
  gM : mg "Malformed" = some (.ref cM)
  kM : PySem.W.keepIn K (.ref cM) = true
  bM : PySem.W.subIn K (.ref cM) (.type "BaseException") = some true
  tM : PySem.W.typeIn K (.ref cM) = some (.type "type")
  eM : PySem.W.exmOne K (.ref cM) (.ref cM) = some true
section
variable {P : Program} {w : World} {K : PySem.W.Frag} {mg : Str → Option Value} {base : Heap}
abbrev Txt.κ (T : Txt P K mg) : Cls := ⟨some (.ref T.cM), none, none⟩
theorem ok_law_draw (T : Txt P K mg) : FnOk P w K mg base (L2.CX P w) 1 T.a_law_draw T.d_law_draw ["script"] (spDraw K) := by
  refine T.F_law_draw.okX sc_law_draw (fun vs H Q E h => ?_) (fun cdv A outer s H vs Q E hr h => ?_)
  · obtain ⟨b, ns, rfl, _⟩ := h
    rfl
  · have po := passes_of (X := cxOf (L2.CX P w) P w K mg base ["script", "seed", "cell"] "_law_draw" (defScope s_law_draw) T.a_law_draw cdv A outer s H E) rfl
    refine ⟨drAll K, pss_cons (ps_set (i := 1) sc_law_draw.nd rfl (.inl rfl) pe_int)
      (pss_cons (ps_for po rfl (pi_list (pv 0)) (pg_name (i := 2) sc_law_draw.nd rfl (.inl rfl))
        (pss_one (ps_set (i := 1) sc_law_draw.nd rfl (.inl rfl) (pe_op op_mod (pe_callTy call_int1 (by rfl) T.z_int (by decide +kernel) (pa_cons (pe_op op_add (pe_op op_add (pe_op op_mul (pv 1) pe_int)
          (pe_op op_mod (pe_callB call_abs (by rfl) T.z_abs (by decide +kernel) (pa_cons (pe_callTy call_int1 (by rfl) T.z_int (by decide +kernel) (pa_cons (pv 2) pa_nil)) pa_nil)) pe_int)) pe_int) pa_nil)) pe_int))))
      (pss_one (ps_ret (pe_lst (pa_cons (pe_lc (own := [("cell", 2)]) rfl sc_law_draw.nd (pi_list (pv 0)) (blkOk_by (own := [("cell", 2)]) (N := ["script", "seed", "cell"]) (sc := defScope s_law_draw) (by decide +kernel)) (fun _ _ _ _ _ => pg_name (i := 2) sc_law_draw.nd rfl (Or.inl rfl)) (fun _ _ _ _ _ => pts_nil)
        (fun _ _ _ _ _ => pe_callB call_abs (by rfl) T.z_abs (by decide +kernel) (pa_cons (pe_callTy call_int1 (by rfl) T.z_int (by decide +kernel) (pa_cons (pv 2) pa_nil)) pa_nil)))
        (pa_cons (pe_un un_neg pe_int) (pa_cons pe_int (pa_cons (pv 1) pa_nil)))))))), ?_⟩
    exact draw_read (E := E) h
theorem ok_law_take (T : Txt P K mg) : FnOk P w K mg base (L2.CX P w) 1 T.a_law_take T.d_law_take ["draw", "many"] (spP K T.κ [true, false] c_law_take) := by
  refine T.F_law_take.okX sc_law_take (fun vs H Q E h => ?_) (fun cdv A outer s H vs Q E hr h => ?_)
  · obtain ⟨a, l, ns, n, p, c, s, rfl, _⟩ := take_sp h
    rfl
  · obtain ⟨a, l, ns, n, p, c, s, rfl, hn, hn2, hla, el, h0, eH, b1, b2, b3, b4, q⟩ := take_sp h
    refine ⟨tkAll K, pss_cons (ps_if (pt_cmpR op_eq (pe_ix ix_list (pv 0) pe_int (fun _ _ => rfl)) pe_int (nomark _))
      (pss_cons (ps_asg (pe_op op_add (pe_ix ix_list (pv 0) pe_int (fun _ _ => rfl)) pe_int) (pg_sub (pv 0) pe_int set_list))
      (pss_cons (ps_if (pt_cmpR op_lt (pe_ix ix_list (pv 0) pe_int (fun _ _ => rfl)) (pe_callB call_len_seq (by rfl) T.z_len PySem.boot_len (pa_cons (pe_ix ix_list (pv 0) pe_int (fun _ _ => rfl)) pa_nil)) (nomark _))
        (pss_one (ps_asg (pe_ix ix_list (pe_ix ix_list (pv 0) pe_int (fun _ _ => rfl)) (pe_ix ix_list (pv 0) pe_int (fun _ _ => rfl)) (fun _ _ => rfl)) (pg_sub (pv 0) pe_int set_list))) pss_nil)
      (pss_one (ps_if (pt_cmpR op_eq (pe_ix ix_list (pv 0) pe_int (fun _ _ => rfl)) pe_int (nomark _))
        (pss_cons (ps_asg (pe_op op_mod (pe_callTy call_int1 (by rfl) T.z_int (by decide +kernel) (pa_cons (pe_op op_add (pe_op op_mul (pe_ix ix_list (pv 0) pe_int (fun _ _ => rfl)) pe_int) pe_int) pa_nil)) pe_int) (pg_sub (pv 0) pe_int set_list))
        (pss_one (ps_asg (pe_ix ix_list (pv 0) pe_int (fun _ _ => rfl)) (pg_sub (pv 0) pe_int set_list)))) pss_nil)))) pss_nil)
      (pss_cons (ps_set (i := 2) sc_law_take.nd rfl (.inl rfl) (pe_op op_mod (pe_callTy call_int1 (by rfl) T.z_int (by decide +kernel) (pa_cons (pe_ix ix_list (pv 0) pe_int (fun _ _ => rfl)) pa_nil)) (pv 1)))
      (pss_cons (ps_asg (pe_op op_fdivN (pe_ix ix_list (pv 0) pe_int (fun _ _ => rfl)) (pv 1)) (pg_sub (pv 0) pe_int set_list))
      (pss_one (ps_ret (pv 2))))), ?_⟩
    rw [eH]
    exact take_read (D := { nx := fun _ H' => Q .non H', rt := Q }) hn hn2 hla el h0 q p c s b1 b2 b3 b4
theorem ok_law_gcd (T : Txt P K mg) : FnOk P w K mg base (L2.CX P w) 1 T.a_law_gcd T.d_law_gcd ["a", "b"] (spP K T.κ [false, false] c_law_gcd) :=
  j_def (κ := T.κ) (N := n_law_gcd) (T := T_law_gcd) T.F_law_gcd sc_law_gcd rfl fun cdv A outer s H E hr => by
    have tk := takes_of (X := cxOf (L2.CX P w) P w K mg base n_law_gcd "_law_gcd" (defScope s_law_gcd) T.a_law_gcd cdv A outer s H E) (E := E) rfl rfl rfl rfl
    have hp := passes_call tk fun _ _ _ _ h => h
    have po := passes_of (X := cxOf (L2.CX P w) P w K mg base n_law_gcd "_law_gcd" (defScope s_law_gcd) T.a_law_gcd cdv A outer s H E) rfl
    have hu := hr.units
    exact (jss_cons (js_par (i := 0) (j := 1) rfl sc_law_gcd.nd rfl rfl (by decide) rfl rfl (j_bi b_abs (by rfl) T.z_abs (by decide +kernel) (jb_v 0)) (j_bi b_abs (by rfl) T.z_abs (by decide +kernel) (jb_v 1)) (by rfl))
    (jss_cons (js_while po (jc_cmp d_gt (jb_v 1) (jb j_int) (nomark _)) (jss_one (js_par (i := 0) (j := 1) rfl sc_law_gcd.nd rfl rfl (by decide) rfl rfl (j_v 1) (j_op d_mod (jb (j_ty b_int (by rfl) T.z_int (by decide +kernel) (jb_v 0))) (jb_v 1)) (by rfl))))
    (jss_one (js_ret (j_v 0)))))
theorem ok_law_ratio (T : Txt P K mg) : FnOk P w K mg base (L2.CX P w) 2 T.a_law_ratio T.d_law_ratio ["n", "d"] (spP K T.κ [false, false] c_law_ratio) :=
  j_def (κ := T.κ) (N := n_law_ratio) (T := T_law_ratio) T.F_law_ratio sc_law_ratio rfl fun cdv A outer s H E hr => by
    have tk := takes_of (X := cxOf (L2.CX P w) P w K mg base n_law_ratio "_law_ratio" (defScope s_law_ratio) T.a_law_ratio cdv A outer s H E) (E := E) rfl rfl rfl rfl
    have hp := passes_call tk fun _ _ _ _ h => h
    have po := passes_of (X := cxOf (L2.CX P w) P w K mg base n_law_ratio "_law_ratio" (defScope s_law_ratio) T.a_law_ratio cdv A outer s H E) rfl
    have hu := hr.units
    exact (jss_cons (js_set (i := 2) sc_law_ratio.nd rfl (Or.inl rfl) (j_call (ok_law_gcd T) (hr.mono (by decide)) (by rfl) T.g_law_gcd T.F_law_gcd.kp T.b_law_gcd hp (ja_cons (j_v 0) (ja_cons (j_v 1) ja_nil))))
    (jss_one (js_ret (j_if (jc_cmp d_gt (jb_v 1) (jb j_int) (nomark _)) (j_tup (ja_cons (j_op d_fdiv (jb_v 0) (jb_v 2)) (ja_cons (j_op d_fdiv (jb_v 1) (jb_v 2)) ja_nil))) (j_tup (ja_cons (j_op d_fdiv (jb (j_un d_neg (jb_v 0))) (jb_v 2)) (ja_cons (j_op d_fdiv (jb (j_un d_neg (jb_v 1))) (jb_v 2)) ja_nil)))))))
theorem ok_law_shares (T : Txt P K mg) : FnOk P w K mg base (L2.CX P w) 3 T.a_law_shares T.d_law_shares ["draw", "many"] (spP K T.κ [true, false] c_law_shares) :=
  j_def (κ := T.κ) (N := n_law_shares) (T := T_law_shares) T.F_law_shares sc_law_shares rfl fun cdv A outer s H E hr => by
    have tk := takes_of (X := cxOf (L2.CX P w) P w K mg base n_law_shares "_law_shares" (defScope s_law_shares) T.a_law_shares cdv A outer s H E) (E := E) rfl rfl rfl rfl
    have hp := passes_call tk fun _ _ _ _ h => h
    have po := passes_of (X := cxOf (L2.CX P w) P w K mg base n_law_shares "_law_shares" (defScope s_law_shares) T.a_law_shares cdv A outer s H E) rfl
    have hu := hr.units
    exact (jss_cons (js_own (i := 2) sc_law_shares.nd rfl (Or.inr rfl) (jf_lc rfl sc_law_shares.nd (ji_b (ji_rng1 (by rfl) T.z_range (jb_v 1))) (blkOk_by (own := [("k", 4)]) (N := n_law_shares) (sc := defScope s_law_shares) (by decide +kernel)) rfl (by decide) (fun _ _ _ _ _ => (jg_n (i := 4) sc_law_shares.nd rfl (by first | exact Or.inl rfl | exact Or.inr rfl))) (fun _ _ _ _ _ => jts_nil) (fun _ _ _ _ _ => (j_ix (jb (j_f (jf_lst (ja_cons j_int (ja_cons j_int (ja_cons j_int (ja_cons j_int (ja_cons j_int (ja_cons j_int (ja_cons j_int ja_nil)))))))))) (jb (j_call (ok_law_take T) (hr.mono (by decide)) (by rfl) T.g_law_take T.F_law_take.kp T.b_law_take passL (ja_draw 0 (ja_cons j_int ja_nil)))) (fun _ _ => rfl)))))
    (jss_cons (js_set (i := 3) sc_law_shares.nd rfl (Or.inl rfl) (j_call (ok_law_take T) (hr.mono (by decide)) (by rfl) T.g_law_take T.F_law_take.kp T.b_law_take hp (ja_draw 0 (ja_cons (j_v 1) ja_nil))))
    (jss_cons (js_sub 2 (j_op d_add (jb (j_ix (jb_v 2) (jb_v 3) (fun _ _ => rfl))) (jb j_int)) (jb_v 3))
    (jss_one (js_ret (j_ty b_tuple (by rfl) T.z_tuple (by decide +kernel) (jb (j_f (jf_lc rfl sc_law_shares.nd (jib_seq (jb_v 2)) (blkOk_by (own := [("item", 5)]) (N := n_law_shares) (sc := defScope s_law_shares) (by decide +kernel)) rfl (by decide) (fun _ _ _ _ _ => (jg_n (i := 5) sc_law_shares.nd rfl (by first | exact Or.inl rfl | exact Or.inr rfl))) (fun _ _ _ _ _ => jts_nil) (fun _ _ _ _ _ => (j_call (ok_law_ratio T) (hr.mono (by decide)) (by rfl) T.g_law_ratio T.F_law_ratio.kp T.b_law_ratio passL (ja_cons (j_v 5) (ja_cons (j_bi (b_sumA rfl) (by rfl) T.z_sum (by decide +kernel) (jb_v 2)) ja_nil)))))))))))))
theorem ok_law_plus (T : Txt P K mg) : FnOk P w K mg base (L2.CX P w) 3 T.a_law_plus T.d_law_plus ["a", "b"] (spP K T.κ [false, false] c_law_plus) :=
  j_def (κ := T.κ) (N := n_law_plus) (T := T_law_plus) T.F_law_plus sc_law_plus rfl fun cdv A outer s H E hr => by
    have tk := takes_of (X := cxOf (L2.CX P w) P w K mg base n_law_plus "_law_plus" (defScope s_law_plus) T.a_law_plus cdv A outer s H E) (E := E) rfl rfl rfl rfl
    have hp := passes_call tk fun _ _ _ _ h => h
    have po := passes_of (X := cxOf (L2.CX P w) P w K mg base n_law_plus "_law_plus" (defScope s_law_plus) T.a_law_plus cdv A outer s H E) rfl
    have hu := hr.units
    exact (jss_one (js_ret (j_call (ok_law_ratio T) (hr.mono (by decide)) (by rfl) T.g_law_ratio T.F_law_ratio.kp T.b_law_ratio hp (ja_cons (j_op d_add (jb (j_op d_mul (jb (j_ix (jb_v 0) (jb j_int) (fun _ _ => rfl))) (jb (j_ix (jb_v 1) (jb j_int) (fun _ _ => rfl))))) (jb (j_op d_mul (jb (j_ix (jb_v 1) (jb j_int) (fun _ _ => rfl))) (jb (j_ix (jb_v 0) (jb j_int) (fun _ _ => rfl)))))) (ja_cons (j_op d_mul (jb (j_ix (jb_v 0) (jb j_int) (fun _ _ => rfl))) (jb (j_ix (jb_v 1) (jb j_int) (fun _ _ => rfl)))) ja_nil)))))
theorem ok_law_ranked (T : Txt P K mg) : FnOk P w K mg base (L2.CX P w) 3 T.a_law_ranked T.d_law_ranked ["draw", "many"] (spP K T.κ [true, false] c_law_ranked) :=
  j_def (κ := T.κ) (N := n_law_ranked) (T := T_law_ranked) T.F_law_ranked sc_law_ranked rfl fun cdv A outer s H E hr => by
    have tk := takes_of (X := cxOf (L2.CX P w) P w K mg base n_law_ranked "_law_ranked" (defScope s_law_ranked) T.a_law_ranked cdv A outer s H E) (E := E) rfl rfl rfl rfl
    have hp := passes_call tk fun _ _ _ _ h => h
    have po := passes_of (X := cxOf (L2.CX P w) P w K mg base n_law_ranked "_law_ranked" (defScope s_law_ranked) T.a_law_ranked cdv A outer s H E) rfl
    have hu := hr.units
    exact (jss_cons (js_own (i := 2) sc_law_ranked.nd rfl (Or.inl rfl) (jf_rep (jb (j_f (jf_lst (ja_cons j_int ja_nil)))) (jb_v 1)))
    (jss_cons (js_own (i := 3) sc_law_ranked.nd rfl (Or.inl rfl) (jf_lst ja_nil))
    (jss_cons (js_for po rfl (ji_rng1 (by rfl) T.z_range (jb_v 1)) (jg_n (i := 4) sc_law_ranked.nd rfl (Or.inl rfl)) (jss_cons (js_own (i := 5) sc_law_ranked.nd rfl (Or.inr rfl) (jf_lst ja_nil))
    (jss_cons (js_for po rfl (ji_rng1 (by rfl) T.z_range (jb_v 1)) (jg_n (i := 6) sc_law_ranked.nd rfl (Or.inl rfl)) (jss_cons (js_set (i := 7) sc_law_ranked.nd rfl (Or.inl rfl) (j_if (jc_cmp (d_eq hu) (jb_v 6) (jb j_int) (nomark _)) j_int (j_ix (jb_v 5) (jb (j_op d_sub (jb_v 6) (jb j_int))) (fun _ _ => rfl))))
    (jss_one (js_app 5 (j_if (jc_cmp (d_eq hu) (jb_v 6) (jb (j_op d_sub (jb_v 1) (jb j_int))) (nomark _)) j_int (j_bi2 (b_max rfl) (by rfl) T.z_max (by decide +kernel) (jb_v 7) (jb (j_op d_sub (jb (j_ix (jb_v 2) (jb_v 6) (fun _ _ => rfl))) (jb (j_call (ok_law_take T) (hr.mono (by decide)) (by rfl) T.g_law_take T.F_law_take.kp T.b_law_take hp (ja_draw 0 (ja_cons j_int ja_nil))))))))))))
    (jss_cons (js_for po rfl (ji_rngD (by rfl) T.z_range (jb (j_op d_sub (jb_v 1) (jb j_int))) (jb (j_un d_neg (jb j_int)))) (jg_n (i := 6) sc_law_ranked.nd rfl (Or.inl rfl)) (jss_one (js_sub 5 (j_bi3 (b_min3 rfl) (by rfl) T.z_min (by decide +kernel) (jb (j_ix (jb_v 5) (jb_v 6) (fun _ _ => rfl))) (jb (j_ix (jb_v 2) (jb_v 6) (fun _ _ => rfl))) (jb (j_ix (jb_v 5) (jb (j_op d_add (jb_v 6) (jb j_int))) (fun _ _ => rfl)))) (jb_v 6))))
    (jss_cons (js_frz 5 (js_set (i := 2) sc_law_ranked.nd rfl (Or.inl rfl) (j_v 5)))
    (jss_one (js_app 3 (j_f (jf_lc rfl sc_law_ranked.nd (ji_b (ji_rng1 (by rfl) T.z_range (jb_v 1))) (blkOk_by (own := [("j", 6)]) (N := n_law_ranked) (sc := defScope s_law_ranked) (by decide +kernel)) rfl (by decide) (fun _ _ _ _ _ => (jg_n (i := 6) sc_law_ranked.nd rfl (by first | exact Or.inl rfl | exact Or.inr rfl))) (fun _ _ _ _ _ => jts_nil) (fun _ _ _ _ _ => (j_call (ok_law_ratio T) (hr.mono (by decide)) (by rfl) T.g_law_ratio T.F_law_ratio.kp T.b_law_ratio passL (ja_cons (j_op d_sub (jb (j_ix (jb_v 5) (jb_v 6) (fun _ _ => rfl))) (jb (j_if (jc_cmp d_gt (jb_v 6) (jb j_int) (nomark _)) (j_ix (jb_v 5) (jb (j_op d_sub (jb_v 6) (jb j_int))) (fun _ _ => rfl)) j_int))) (ja_cons j_int ja_nil)))))))))))))
    (jss_one (js_frz 3 (js_ret (j_v 3)))))))
theorem ok_law_moves (T : Txt P K mg) : FnOk P w K mg base (L2.CX P w) 4 T.a_law_moves T.d_law_moves ["draw", "most"] (spP K T.κ [true, false] c_law_moves) :=
  j_def (κ := T.κ) (N := n_law_moves) (T := T_law_moves) T.F_law_moves sc_law_moves rfl fun cdv A outer s H E hr => by
    have tk := takes_of (X := cxOf (L2.CX P w) P w K mg base n_law_moves "_law_moves" (defScope s_law_moves) T.a_law_moves cdv A outer s H E) (E := E) rfl rfl rfl rfl
    have hp := passes_call tk fun _ _ _ _ h => h
    have po := passes_of (X := cxOf (L2.CX P w) P w K mg base n_law_moves "_law_moves" (defScope s_law_moves) T.a_law_moves cdv A outer s H E) rfl
    have hu := hr.units
    exact (jss_cons (js_set (i := 2) sc_law_moves.nd rfl (Or.inl rfl) (j_op d_add (jb j_int) (jb (j_call (ok_law_take T) (hr.mono (by decide)) (by rfl) T.g_law_take T.F_law_take.kp T.b_law_take hp (ja_draw 0 (ja_cons (j_op d_sub (jb_v 1) (jb j_int)) ja_nil))))))
    (jss_cons (js_set (i := 3) sc_law_moves.nd rfl (Or.inl rfl) (j_call (ok_law_take T) (hr.mono (by decide)) (by rfl) T.g_law_take T.F_law_take.kp T.b_law_take hp (ja_draw 0 (ja_cons j_int ja_nil))))
    (jss_cons (js_own (i := 4) sc_law_moves.nd rfl (Or.inl rfl) (jf_lst ja_nil))
    (jss_cons (js_for po rfl (ji_rng1 (by rfl) T.z_range (jb_v 2)) (jg_n (i := 5) sc_law_moves.nd rfl (Or.inl rfl)) (jss_cons (js_own (i := 6) sc_law_moves.nd rfl (Or.inl rfl) (jf_list (by rfl) T.z_list (jb (j_call (ok_law_shares T) (hr.mono (by decide)) (by rfl) T.g_law_shares T.F_law_shares.kp T.b_law_shares hp (ja_draw 0 (ja_cons (j_v 2) ja_nil))))))
    (jss_cons (js_if (jw (jw_or (jc_cmp (d_eq hu) (jb_v 3) (jb j_int) (nomark _)) (jw_or1 (jw (jw_and (jc_cmp (d_eq hu) (jb_v 3) (jb j_int) (nomark _)) (jw_and1 (jc_cmp (d_eq hu) (jb (j_call (ok_law_take T) (hr.mono (by decide)) (by rfl) T.g_law_take T.F_law_take.kp T.b_law_take hp (ja_draw 0 (ja_cons j_int ja_nil)))) (jb j_int) (nomark _)))))))) (jss_cons (js_set (i := 7) sc_law_moves.nd rfl (Or.inr rfl) (j_call (ok_law_take T) (hr.mono (by decide)) (by rfl) T.g_law_take T.F_law_take.kp T.b_law_take hp (ja_draw 0 (ja_cons (j_v 2) ja_nil))))
    (jss_one (js_lc (i := 6) rfl sc_law_moves.nd rfl rfl (sw_true rfl rfl rfl (by decide +kernel)) (ji_b (ji_rng1 (by rfl) T.z_range (jb_v 2))) (blkOk_by (own := [("j", 10)]) (N := n_law_moves) (sc := defScope s_law_moves) (by decide +kernel)) rfl (by decide) (fun _ _ _ _ _ => (jg_n (i := 10) sc_law_moves.nd rfl (by first | exact Or.inl rfl | exact Or.inr rfl))) (fun _ _ _ _ _ => jts_nil) (fun _ _ _ _ _ => (j_tup (ja_cons (j_ty b_int (by rfl) T.z_int (by decide +kernel) (jb (j_cmp (d_eq hu) (jb_v 10) (jb_v 7) (nomark _)))) (ja_cons j_int ja_nil))))))) jss_nil)
    (jss_cons (js_if (jc_cmp (d_eq hu) (jb_v 3) (jb j_int) (nomark _)) (jss_cons (js_set (i := 8) sc_law_moves.nd rfl (Or.inl rfl) (j_op d_mul (jb (j_op d_fdiv (jb_v 5) (jb j_int))) (jb j_int)))
    (jss_cons (js_own (i := 6) sc_law_moves.nd rfl (Or.inl rfl) (jf_rep (jb (j_f (jf_lst (ja_cons (j_tup (ja_cons j_int (ja_cons j_int ja_nil))) ja_nil)))) (jb_v 2)))
    (jss_cons (js_set (i := 9) sc_law_moves.nd rfl (Or.inl rfl) (j_call (ok_law_take T) (hr.mono (by decide)) (by rfl) T.g_law_take T.F_law_take.kp T.b_law_take hp (ja_draw 0 (ja_cons j_int ja_nil))))
    (jss_cons (js_sub 6 (j_tup (ja_cons (j_op d_sub (jb j_int) (jb_v 9)) (ja_cons j_int ja_nil))) (jb_v 8))
    (jss_cons (js_sub 6 (j_call (ok_law_plus T) (hr.mono (by decide)) (by rfl) T.g_law_plus T.F_law_plus.kp T.b_law_plus hp (ja_cons (j_ix (jb_v 6) (jb (j_bi2 (b_min rfl) (by rfl) T.z_min (by decide +kernel) (jb (j_op d_add (jb_v 8) (jb j_int))) (jb (j_op d_sub (jb_v 2) (jb j_int))))) (fun _ _ => rfl)) (ja_cons (j_tup (ja_cons (j_v 9) (ja_cons j_int ja_nil))) ja_nil))) (jb (j_bi2 (b_min rfl) (by rfl) T.z_min (by decide +kernel) (jb (j_op d_add (jb_v 8) (jb j_int))) (jb (j_op d_sub (jb_v 2) (jb j_int))))))
    (jss_one (js_lc (i := 6) rfl sc_law_moves.nd rfl rfl (sw_true rfl rfl rfl (by decide +kernel)) (jib_seq (jb_v 6)) (blkOk_by (own := [("item", 11)]) (N := n_law_moves) (sc := defScope s_law_moves) (by decide +kernel)) rfl (by decide) (fun _ _ _ _ _ => (jg_n (i := 11) sc_law_moves.nd rfl (by first | exact Or.inl rfl | exact Or.inr rfl))) (fun _ _ _ _ _ => jts_nil) (fun _ _ _ _ _ => (j_call (ok_law_ratio T) (hr.mono (by decide)) (by rfl) T.g_law_ratio T.F_law_ratio.kp T.b_law_ratio passL (ja_cons (j_ix (jb_v 11) (jb j_int) (fun _ _ => rfl)) (ja_cons (j_ix (jb_v 11) (jb j_int) (fun _ _ => rfl)) ja_nil))))))))))) jss_nil)
    (jss_one (js_frz 6 (js_app 4 (j_v 6))))))))
    (jss_cons (js_if (jc_cmp (d_eq hu) (jb_v 3) (jb j_int) (nomark _)) (jss_one (js_set (i := 4) sc_law_moves.nd rfl (Or.inl rfl) (j_call (ok_law_ranked T) (hr.mono (by decide)) (by rfl) T.g_law_ranked T.F_law_ranked.kp T.b_law_ranked hp (ja_draw 0 (ja_cons (j_v 2) ja_nil))))) jss_nil)
    (jss_one (js_ret (j_ty b_tuple (by rfl) T.z_tuple (by decide +kernel) (jb (j_f (jf_lc rfl sc_law_moves.nd (jib_seq (jb_v 4)) (blkOk_by (own := [("row", 6)]) (N := n_law_moves) (sc := defScope s_law_moves) (by decide +kernel)) rfl (by decide) (fun _ _ _ _ _ => (jg_n (i := 6) sc_law_moves.nd rfl (by first | exact Or.inl rfl | exact Or.inr rfl))) (fun _ _ _ _ _ => jts_nil) (fun _ _ _ _ _ => (j_ty b_tuple (by rfl) T.z_tuple (by decide +kernel) (jb_v 6))))))))))))))
theorem ok_law_mixed (T : Txt P K mg) : FnOk P w K mg base (L2.CX P w) 3 T.a_law_mixed T.d_law_mixed ["draw"] (spP K T.κ [true] c_law_mixed) :=
  j_def (κ := T.κ) (N := n_law_mixed) (T := T_law_mixed) T.F_law_mixed sc_law_mixed rfl fun cdv A outer s H E hr => by
    have tk := takes_of (X := cxOf (L2.CX P w) P w K mg base n_law_mixed "_law_mixed" (defScope s_law_mixed) T.a_law_mixed cdv A outer s H E) (E := E) rfl rfl rfl rfl
    have hp := passes_call tk fun _ _ _ _ h => h
    have po := passes_of (X := cxOf (L2.CX P w) P w K mg base n_law_mixed "_law_mixed" (defScope s_law_mixed) T.a_law_mixed cdv A outer s H E) rfl
    have hu := hr.units
    exact (jss_cons (js_unp (j_tup (ja_cons (j_op d_add (jb j_int) (jb (j_call (ok_law_take T) (hr.mono (by decide)) (by rfl) T.g_law_take T.F_law_take.kp T.b_law_take hp (ja_draw 0 (ja_cons j_int ja_nil))))) (ja_cons (j_op d_add (jb j_int) (jb (j_call (ok_law_take T) (hr.mono (by decide)) (by rfl) T.g_law_take T.F_law_take.kp T.b_law_take hp (ja_draw 0 (ja_cons j_int ja_nil))))) ja_nil))) (jg_tup rfl (jgs_cons (jg_n (i := 1) sc_law_mixed.nd rfl (Or.inr rfl)) (jgs_cons (jg_n (i := 2) sc_law_mixed.nd rfl (Or.inr rfl)) jgs_nil)) (tk_cons tk_n (tk_cons tk_n tk_nil))))
    (jss_cons (js_nst (i := 3) rfl sc_law_mixed.nd rfl rfl (sw_true rfl rfl rfl (by decide +kernel)) (ji_b (ji_rng1 (by rfl) T.z_range (jb_v 1))) (blkOk_by (own := [("i", 4)]) (N := n_law_mixed) (sc := defScope s_law_mixed) (by decide +kernel)) rfl (by decide) (fun _ _ _ _ _ => (jg_n (i := 4) sc_law_mixed.nd rfl (by first | exact Or.inl rfl | exact Or.inr rfl))) (fun _ _ _ _ _ => jts_nil) (fun _ _ _ _ _ => (jf_rep (jb (j_f (jf_lst (ja_cons j_int ja_nil)))) (jb_v 1))))
    (jss_cons (js_for po rfl (ji_rng1 (by rfl) T.z_range (jb_v 2)) (jg_n (i := 5) sc_law_mixed.nd rfl (Or.inl rfl)) (jss_cons (js_own (i := 6) sc_law_mixed.nd rfl (Or.inl rfl) (jf_lrng rfl (by rfl) T.z_list (by rfl) T.z_range (jb_v 1)))
    (jss_one (js_for po rfl (ji_rng1 (by rfl) T.z_range (jb_v 1)) (jg_n (i := 4) sc_law_mixed.nd rfl (Or.inl rfl)) (jss_cons (js_popS 6 7 sc_law_mixed.nd rfl (Or.inl rfl) (jb (j_call (ok_law_take T) (hr.mono (by decide)) (by rfl) T.g_law_take T.F_law_take.kp T.b_law_take hp (ja_draw 0 (ja_cons (j_bi b_len (by rfl) T.z_len (by decide +kernel) (jb_v 6)) ja_nil)))))
    (jss_one (js_sub2 3 (j_op d_add (jb (j_ix (jb_nix 3 (jb_v 4) (fun _ _ => rfl)) (jb_v 7) (fun _ _ => rfl))) (jb j_int)) (jb_v 4) (jb_v 7) (fun _ _ => rfl))))))))
    (jss_one (js_frz 3 (js_ret (j_ty b_tuple (by rfl) T.z_tuple (by decide +kernel) (jb (j_f (jf_lc rfl sc_law_mixed.nd (jib_seq (jb_v 3)) (blkOk_by (own := [("row", 9)]) (N := n_law_mixed) (sc := defScope s_law_mixed) (by decide +kernel)) rfl (by decide) (fun _ _ _ _ _ => (jg_n (i := 9) sc_law_mixed.nd rfl (by first | exact Or.inl rfl | exact Or.inr rfl))) (fun _ _ _ _ _ => jts_nil) (fun _ _ _ _ _ => (j_ty b_tuple (by rfl) T.z_tuple (by decide +kernel) (jb (j_f (jf_lc rfl sc_law_mixed.nd (jib_seq (jb_v 9)) (blkOk_by (own := [("item", 8)]) (by rfl)) rfl (by decide) (fun _ _ _ _ _ => (jg_n (i := 8) sc_law_mixed.nd rfl (by first | exact Or.inl rfl | exact Or.inr rfl))) (fun _ _ _ _ _ => jts_nil) (fun _ _ _ _ _ => (j_call (ok_law_ratio T) (hr.mono (by decide)) (by rfl) T.g_law_ratio T.F_law_ratio.kp T.b_law_ratio passL (ja_cons (j_v 8) (ja_cons (j_v 2) ja_nil)))))))))))))))))))
theorem ok_is_whole (T : Txt P K mg) : FnOk P w K mg base (L2.CX P w) 1 T.a_is_whole T.d_is_whole ["value"] (spP K T.κ [false] c_is_whole) :=
  j_def (κ := T.κ) (N := n_is_whole) (T := T_is_whole) T.F_is_whole sc_is_whole rfl fun cdv A outer s H E hr => by
    have tk := takes_of (X := cxOf (L2.CX P w) P w K mg base n_is_whole "is_whole" (defScope s_is_whole) T.a_is_whole cdv A outer s H E) (E := E) rfl rfl rfl rfl
    have hp := passes_call tk fun _ _ _ _ h => h
    have po := passes_of (X := cxOf (L2.CX P w) P w K mg base n_is_whole "is_whole" (defScope s_is_whole) T.a_is_whole cdv A outer s H E) rfl
    have hu := hr.units
    exact (jss_one (js_ret (j_and (j_isin .tInt (by rfl) T.z_isinstance (jb_v 0) (pe_bltn (v := .ty "int") (by rfl) T.z_int (by decide +kernel) rfl)) (j_one (j_not (j_isin .tBool (by rfl) T.z_isinstance (jb_v 0) (pe_bltn (v := .ty "bool") (by rfl) T.z_bool (by decide +kernel) rfl)))))))
theorem ok_common (T : Txt P K mg) : FnOk P w K mg base (L2.CX P w) 1 T.a_common T.d_common ["a", "b"] (spP K T.κ [false, false] c_common) :=
  j_def (κ := T.κ) (N := n_common) (T := T_common) T.F_common sc_common rfl fun cdv A outer s H E hr => by
    have tk := takes_of (X := cxOf (L2.CX P w) P w K mg base n_common "common" (defScope s_common) T.a_common cdv A outer s H E) (E := E) rfl rfl rfl rfl
    have hp := passes_call tk fun _ _ _ _ h => h
    have po := passes_of (X := cxOf (L2.CX P w) P w K mg base n_common "common" (defScope s_common) T.a_common cdv A outer s H E) rfl
    have hu := hr.units
    exact (jss_cons (js_par (i := 0) (j := 1) rfl sc_common.nd rfl rfl (by decide) rfl rfl (j_bi b_abs (by rfl) T.z_abs (by decide +kernel) (jb_v 0)) (j_bi b_abs (by rfl) T.z_abs (by decide +kernel) (jb_v 1)) (by rfl))
    (jss_cons (js_while po (jc_cmp (d_ne hu) (jb_v 1) (jb j_int) (nomark _)) (jss_one (js_par (i := 0) (j := 1) rfl sc_common.nd rfl rfl (by decide) rfl rfl (j_v 1) (j_op d_mod (jb_v 0) (jb_v 1)) (by rfl))))
    (jss_one (js_ret (j_v 0)))))
theorem ok_is_ratio (T : Txt P K mg) : FnOk P w K mg base (L2.CX P w) 2 T.a_is_ratio T.d_is_ratio ["value"] (spP K T.κ [false] c_is_ratio) :=
  j_def (κ := T.κ) (N := n_is_ratio) (T := T_is_ratio) T.F_is_ratio sc_is_ratio rfl fun cdv A outer s H E hr => by
    have tk := takes_of (X := cxOf (L2.CX P w) P w K mg base n_is_ratio "is_ratio" (defScope s_is_ratio) T.a_is_ratio cdv A outer s H E) (E := E) rfl rfl rfl rfl
    have hp := passes_call tk fun _ _ _ _ h => h
    have po := passes_of (X := cxOf (L2.CX P w) P w K mg base n_is_ratio "is_ratio" (defScope s_is_ratio) T.a_is_ratio cdv A outer s H E) rfl
    have hu := hr.units
    exact (jss_cons (js_if (jw (jw_or (jc_not (jc_e (j_isin .tTuple (by rfl) T.z_isinstance (jb_v 0) (pe_bltn (v := .ty "tuple") (by rfl) T.z_tuple (by decide +kernel) rfl)))) (jw_or (jc_cmp (d_ne hu) (jb (j_bi b_len (by rfl) T.z_len (by decide +kernel) (jb_v 0))) (jb j_int) (nomark _)) (jw_or (jc_not (jc_e (j_call (ok_is_whole T) (hr.mono (by decide)) (by rfl) T.g_is_whole T.F_is_whole.kp T.b_is_whole hp (ja_cons (j_ix (jb_v 0) (jb j_int) (fun _ _ => rfl)) ja_nil)))) (jw_or1 (jc_not (jc_e (j_call (ok_is_whole T) (hr.mono (by decide)) (by rfl) T.g_is_whole T.F_is_whole.kp T.b_is_whole hp (ja_cons (j_ix (jb_v 0) (jb j_int) (fun _ _ => rfl)) ja_nil))))))))) (jss_one (js_ret j_bl)) jss_nil)
    (jss_one (js_ret (j_and (j_cmp d_gt (jb (j_ix (jb_v 0) (jb j_int) (fun _ _ => rfl))) (jb j_int) (nomark _)) (j_one (j_cmp (d_eq hu) (jb (j_call (ok_common T) (hr.mono (by decide)) (by rfl) T.g_common T.F_common.kp T.b_common hp (ja_cons (j_ix (jb_v 0) (jb j_int) (fun _ _ => rfl)) (ja_cons (j_ix (jb_v 0) (jb j_int) (fun _ _ => rfl)) ja_nil)))) (jb j_int) (nomark _)))))))
theorem ok_lowest (T : Txt P K mg) : FnOk P w K mg base (L2.CX P w) 2 T.a_lowest T.d_lowest ["n", "d"] (spP K T.κ [false, false] c_lowest) :=
  j_def (κ := T.κ) (N := n_lowest) (T := T_lowest) T.F_lowest sc_lowest rfl fun cdv A outer s H E hr => by
    have tk := takes_of (X := cxOf (L2.CX P w) P w K mg base n_lowest "lowest" (defScope s_lowest) T.a_lowest cdv A outer s H E) (E := E) rfl rfl rfl rfl
    have hp := passes_call tk fun _ _ _ _ h => h
    have po := passes_of (X := cxOf (L2.CX P w) P w K mg base n_lowest "lowest" (defScope s_lowest) T.a_lowest cdv A outer s H E) rfl
    have hu := hr.units
    exact (jss_cons (js_set (i := 2) sc_lowest.nd rfl (Or.inl rfl) (j_call (ok_common T) (hr.mono (by decide)) (by rfl) T.g_common T.F_common.kp T.b_common hp (ja_cons (j_v 0) (ja_cons (j_v 1) ja_nil))))
    (jss_cons (js_if (jc_cmp d_lt (jb_v 1) (jb j_int) (nomark _)) (jss_one (js_set (i := 2) sc_lowest.nd rfl (Or.inl rfl) (j_un d_neg (jb_v 2)))) jss_nil)
    (jss_one (js_ret (j_tup (ja_cons (j_op d_fdiv (jb_v 0) (jb_v 2)) (ja_cons (j_op d_fdiv (jb_v 1) (jb_v 2)) ja_nil)))))))
theorem ok_plus (T : Txt P K mg) : FnOk P w K mg base (L2.CX P w) 3 T.a_plus T.d_plus ["a", "b"] (spP K T.κ [false, false] c_plus) :=
  j_def (κ := T.κ) (N := n_plus) (T := T_plus) T.F_plus sc_plus rfl fun cdv A outer s H E hr => by
    have tk := takes_of (X := cxOf (L2.CX P w) P w K mg base n_plus "plus" (defScope s_plus) T.a_plus cdv A outer s H E) (E := E) rfl rfl rfl rfl
    have hp := passes_call tk fun _ _ _ _ h => h
    have po := passes_of (X := cxOf (L2.CX P w) P w K mg base n_plus "plus" (defScope s_plus) T.a_plus cdv A outer s H E) rfl
    have hu := hr.units
    exact (jss_one (js_ret (j_call (ok_lowest T) (hr.mono (by decide)) (by rfl) T.g_lowest T.F_lowest.kp T.b_lowest hp (ja_cons (j_op d_add (jb (j_op d_mul (jb (j_ix (jb_v 0) (jb j_int) (fun _ _ => rfl))) (jb (j_ix (jb_v 1) (jb j_int) (fun _ _ => rfl))))) (jb (j_op d_mul (jb (j_ix (jb_v 1) (jb j_int) (fun _ _ => rfl))) (jb (j_ix (jb_v 0) (jb j_int) (fun _ _ => rfl)))))) (ja_cons (j_op d_mul (jb (j_ix (jb_v 0) (jb j_int) (fun _ _ => rfl))) (jb (j_ix (jb_v 1) (jb j_int) (fun _ _ => rfl)))) ja_nil)))))
theorem ok_total (T : Txt P K mg) : FnOk P w K mg base (L2.CX P w) 4 T.a_total T.d_total ["items"] (spP K T.κ [false] c_total) :=
  j_def (κ := T.κ) (N := n_total) (T := T_total) T.F_total sc_total rfl fun cdv A outer s H E hr => by
    have tk := takes_of (X := cxOf (L2.CX P w) P w K mg base n_total "total" (defScope s_total) T.a_total cdv A outer s H E) (E := E) rfl rfl rfl rfl
    have hp := passes_call tk fun _ _ _ _ h => h
    have po := passes_of (X := cxOf (L2.CX P w) P w K mg base n_total "total" (defScope s_total) T.a_total cdv A outer s H E) rfl
    have hu := hr.units
    exact (jss_cons (js_set (i := 1) sc_total.nd rfl (Or.inl rfl) (j_glob T.k_ZERO (by rfl)))
    (jss_cons (js_for po rfl (ji_seq (j_v 0)) (jg_n (i := 2) sc_total.nd rfl (Or.inl rfl)) (jss_one (js_if (jc_cmp (d_ne hu) (jb (j_ix (jb_v 2) (jb j_int) (fun _ _ => rfl))) (jb j_int) (nomark _)) (jss_one (js_set (i := 1) sc_total.nd rfl (Or.inl rfl) (j_call (ok_plus T) (hr.mono (by decide)) (by rfl) T.g_plus T.F_plus.kp T.b_plus hp (ja_cons (j_v 1) (ja_cons (j_v 2) ja_nil))))) jss_nil)))
    (jss_one (js_ret (j_v 1)))))
theorem ok_fits_shares (T : Txt P K mg) : FnOk P w K mg base (L2.CX P w) 5 T.a_fits_shares T.d_fits_shares ["value", "many"] (spP K T.κ [false, false] c_fits_shares) :=
  j_def (κ := T.κ) (N := n_fits_shares) (T := T_fits_shares) T.F_fits_shares sc_fits_shares rfl fun cdv A outer s H E hr => by
    have tk := takes_of (X := cxOf (L2.CX P w) P w K mg base n_fits_shares "fits_shares" (defScope s_fits_shares) T.a_fits_shares cdv A outer s H E) (E := E) rfl rfl rfl rfl
    have hp := passes_call tk fun _ _ _ _ h => h
    have po := passes_of (X := cxOf (L2.CX P w) P w K mg base n_fits_shares "fits_shares" (defScope s_fits_shares) T.a_fits_shares cdv A outer s H E) rfl
    have hu := hr.units
    exact (jss_cons (js_if (jw (jw_or (jc_not (jc_e (j_isin .tTuple (by rfl) T.z_isinstance (jb_v 0) (pe_bltn (v := .ty "tuple") (by rfl) T.z_tuple (by decide +kernel) rfl)))) (jw_or1 (jc_cmp (d_ne hu) (jb (j_bi b_len (by rfl) T.z_len (by decide +kernel) (jb_v 0))) (jb_v 1) (nomark _))))) (jss_one (js_ret j_bl)) jss_nil)
    (jss_one (js_ret (j_and (j_bi (b_all rfl) (by rfl) T.z_all (by decide +kernel) (jb (j_f (jf_lc rfl sc_fits_shares.nd (jib_seq (jb_v 0)) (blkOk_by (own := [("item", 2)]) (N := n_fits_shares) (sc := defScope s_fits_shares) (by decide +kernel)) rfl (by decide) (fun _ _ _ _ _ => (jg_n (i := 2) sc_fits_shares.nd rfl (by first | exact Or.inl rfl | exact Or.inr rfl))) (fun _ _ _ _ _ => jts_nil) (fun _ _ _ _ _ => (j_and (j_call (ok_is_ratio T) (hr.mono (by decide)) (by rfl) T.g_is_ratio T.F_is_ratio.kp T.b_is_ratio passL (ja_cons (j_v 2) ja_nil)) (j_one (j_cmp d_ge (jb (j_ix (jb_v 2) (jb j_int) (fun _ _ => rfl))) (jb j_int) (nomark _))))))))) (j_one (j_cmp (d_eq hu) (jb (j_call (ok_total T) (hr.mono (by decide)) (by rfl) T.g_total T.F_total.kp T.b_total hp (ja_cons (j_v 0) ja_nil))) (jb (j_glob T.k_ONE (by rfl))) (nomark _)))))))
theorem ok_is_moves (T : Txt P K mg) : FnOk P w K mg base (L2.CX P w) 6 T.a_is_moves T.d_is_moves ["value"] (spP K T.κ [false] c_is_moves) :=
  j_def (κ := T.κ) (N := n_is_moves) (T := T_is_moves) T.F_is_moves sc_is_moves rfl fun cdv A outer s H E hr => by
    have tk := takes_of (X := cxOf (L2.CX P w) P w K mg base n_is_moves "is_moves" (defScope s_is_moves) T.a_is_moves cdv A outer s H E) (E := E) rfl rfl rfl rfl
    have hp := passes_call tk fun _ _ _ _ h => h
    have po := passes_of (X := cxOf (L2.CX P w) P w K mg base n_is_moves "is_moves" (defScope s_is_moves) T.a_is_moves cdv A outer s H E) rfl
    have hu := hr.units
    exact (jss_cons (js_if (jw (jw_or (jc_not (jc_e (j_isin .tTuple (by rfl) T.z_isinstance (jb_v 0) (pe_bltn (v := .ty "tuple") (by rfl) T.z_tuple (by decide +kernel) rfl)))) (jw_or1 (jc_not (jc_ch d_le d_le (jb (j_glob T.k_FEWEST_CLASSES (by rfl))) (jb (j_bi b_len (by rfl) T.z_len (by decide +kernel) (jb_v 0))) (jb (j_glob T.k_MOST_CLASSES (by rfl)))))))) (jss_one (js_ret j_bl)) jss_nil)
    (jss_one (js_ret (j_bi (b_all rfl) (by rfl) T.z_all (by decide +kernel) (jb (j_f (jf_lc rfl sc_is_moves.nd (jib_seq (jb_v 0)) (blkOk_by (own := [("row", 2)]) (N := n_is_moves) (sc := defScope s_is_moves) (by decide +kernel)) rfl (by decide) (fun _ _ _ _ _ => (jg_n (i := 2) sc_is_moves.nd rfl (by first | exact Or.inl rfl | exact Or.inr rfl))) (fun _ _ _ _ _ => jts_nil) (fun _ _ _ _ _ => (j_and (j_call (ok_fits_shares T) (hr.mono (by decide)) (by rfl) T.g_fits_shares T.F_fits_shares.kp T.b_fits_shares passL (ja_cons (j_v 2) (ja_cons (j_bi b_len (by rfl) T.z_len (by decide +kernel) (jb_v 0)) ja_nil))) (j_one (j_bi (b_all rfl) (by rfl) T.z_all (by decide +kernel) (jb (j_f (jf_lc rfl sc_is_moves.nd (jib_seq (jb_v 2)) (blkOk_by (own := [("item", 1)]) (by rfl)) rfl (by decide) (fun _ _ _ _ _ => (jg_n (i := 1) sc_is_moves.nd rfl (by first | exact Or.inl rfl | exact Or.inr rfl))) (fun _ _ _ _ _ => jts_nil) (fun _ _ _ _ _ => (j_cmp d_le (jb (j_ix (jb_v 1) (jb j_int) (fun _ _ => rfl))) (jb (j_glob T.k_MOST_LOWER (by rfl))) (nomark _)))))))))))))))))
theorem ok_law_sum (T : Txt P K mg) : FnOk P w K mg base (L2.CX P w) 4 T.a_law_sum T.d_law_sum ["items"] (spP K T.κ [false] c_law_sum) :=
  j_def (κ := T.κ) (N := n_law_sum) (T := T_law_sum) T.F_law_sum sc_law_sum rfl fun cdv A outer s H E hr => by
    have tk := takes_of (X := cxOf (L2.CX P w) P w K mg base n_law_sum "_law_sum" (defScope s_law_sum) T.a_law_sum cdv A outer s H E) (E := E) rfl rfl rfl rfl
    have hp := passes_call tk fun _ _ _ _ h => h
    have po := passes_of (X := cxOf (L2.CX P w) P w K mg base n_law_sum "_law_sum" (defScope s_law_sum) T.a_law_sum cdv A outer s H E) rfl
    have hu := hr.units
    exact (jss_cons (js_set (i := 1) sc_law_sum.nd rfl (Or.inl rfl) (j_tup (ja_cons j_int (ja_cons j_int ja_nil))))
    (jss_cons (js_for po rfl (ji_seq (j_v 0)) (jg_n (i := 2) sc_law_sum.nd rfl (Or.inl rfl)) (jss_one (js_set (i := 1) sc_law_sum.nd rfl (Or.inl rfl) (j_call (ok_law_plus T) (hr.mono (by decide)) (by rfl) T.g_law_plus T.F_law_plus.kp T.b_law_plus hp (ja_cons (j_v 1) (ja_cons (j_v 2) ja_nil))))))
    (jss_one (js_ret (j_v 1)))))
theorem ok_check_moves (T : Txt P K mg) : FnOk P w K mg base (L2.CX P w) 7 T.a_check_moves T.d_check_moves ["value"] (spP K T.κ [false] c_check_moves) :=
  j_def (κ := T.κ) (N := n_check_moves) (T := T_check_moves) T.F_check_moves sc_check_moves rfl fun cdv A outer s H E hr => by
    have tk := takes_of (X := cxOf (L2.CX P w) P w K mg base n_check_moves "check_moves" (defScope s_check_moves) T.a_check_moves cdv A outer s H E) (E := E) rfl rfl rfl rfl
    have hp := passes_call tk fun _ _ _ _ h => h
    have po := passes_of (X := cxOf (L2.CX P w) P w K mg base n_check_moves "check_moves" (defScope s_check_moves) T.a_check_moves cdv A outer s H E) rfl
    have hu := hr.units
    exact (jss_one (js_if (jc_not (jc_e (j_call (ok_is_moves T) (hr.mono (by decide)) (by rfl) T.g_is_moves T.F_is_moves.kp T.b_is_moves hp (ja_cons (j_v 0) ja_nil)))) (jss_one (js_raiseM rfl tk T.xM T.gM T.kM (raises_own T.bM T.tM) (by rfl) rfl)) jss_nil))
theorem ok_mixing_objection (T : Txt P K mg) : FnOk P w K mg base (L2.CX P w) 8 T.a_mixing_objection T.d_mixing_objection ["moves"] (spP K T.κ [false] c_mixing_objection) :=
  j_def (κ := T.κ) (N := n_mixing_objection) (T := T_mixing_objection) T.F_mixing_objection sc_mixing_objection rfl fun cdv A outer s H E hr => by
    have tk := takes_of (X := cxOf (L2.CX P w) P w K mg base n_mixing_objection "mixing_objection" (defScope s_mixing_objection) T.a_mixing_objection cdv A outer s H E) (E := E) rfl rfl rfl rfl
    have hp := passes_call tk fun _ _ _ _ h => h
    have po := passes_of (X := cxOf (L2.CX P w) P w K mg base n_mixing_objection "mixing_objection" (defScope s_mixing_objection) T.a_mixing_objection cdv A outer s H E) rfl
    have hu := hr.units
    exact (jss_cons (js_ex (j_call (ok_check_moves T) (hr.mono (by decide)) (by rfl) T.g_check_moves T.F_check_moves.kp T.b_check_moves hp (ja_cons (j_v 0) ja_nil)))
    (jss_cons (js_set (i := 1) sc_mixing_objection.nd rfl (Or.inl rfl) (j_bi b_len (by rfl) T.z_len (by decide +kernel) (jb_v 0)))
    (jss_cons (js_if (jc_e (j_bi (b_all rfl) (by rfl) T.z_all (by decide +kernel) (jb (j_f (jf_lc rfl sc_mixing_objection.nd (ji_b (ji_rng1 (by rfl) T.z_range (jb_v 1))) (blkOk_by (own := [("j", 3)]) (N := n_mixing_objection) (sc := defScope s_mixing_objection) (by decide +kernel)) rfl (by decide) (fun _ _ _ _ _ => (jg_n (i := 3) sc_mixing_objection.nd rfl (by first | exact Or.inl rfl | exact Or.inr rfl))) (fun _ _ _ _ _ => jts_nil) (fun _ _ _ _ _ => (j_cmp (d_eq hu) (jb (j_call (ok_total T) (hr.mono (by decide)) (by rfl) T.g_total T.F_total.kp T.b_total passL (ja_cons (j_f (jf_lc rfl sc_mixing_objection.nd (jib_seq (jb_v 0)) (blkOk_by (own := [("row", 2)]) (by rfl)) rfl (by decide) (fun _ _ _ _ _ => (jg_n (i := 2) sc_mixing_objection.nd rfl (by first | exact Or.inl rfl | exact Or.inr rfl))) (fun _ _ _ _ _ => jts_nil) (fun _ _ _ _ _ => (j_ix (jb_v 2) (jb_v 3) (fun _ _ => rfl))))) ja_nil))) (jb (j_glob T.k_ONE (by rfl))) (nomark _)))))))) (jss_one (js_ret j_non)) jss_nil)
    (jss_one (js_ret (j_op d_mul (jb (j_tup (ja_cons (j_call (ok_lowest T) (hr.mono (by decide)) (by rfl) T.g_lowest T.F_lowest.kp T.b_lowest hp (ja_cons j_int (ja_cons (j_v 1) ja_nil))) ja_nil))) (jb_v 1)))))))
theorem ok_law_is_fraction (T : Txt P K mg) : FnOk P w K mg base (L2.CX P w) 3 T.a_law_is_fraction T.d_law_is_fraction ["value"] (spP K T.κ [false] c_law_is_fraction) :=
  j_def (κ := T.κ) (N := n_law_is_fraction) (T := T_law_is_fraction) T.F_law_is_fraction sc_law_is_fraction rfl fun cdv A outer s H E hr => by
    have tk := takes_of (X := cxOf (L2.CX P w) P w K mg base n_law_is_fraction "_law_is_fraction" (defScope s_law_is_fraction) T.a_law_is_fraction cdv A outer s H E) (E := E) rfl rfl rfl rfl
    have hp := passes_call tk fun _ _ _ _ h => h
    have po := passes_of (X := cxOf (L2.CX P w) P w K mg base n_law_is_fraction "_law_is_fraction" (defScope s_law_is_fraction) T.a_law_is_fraction cdv A outer s H E) rfl
    have hu := hr.units
    exact (jss_cons (js_if (jw (jw_or (jc_not (jc_e (j_isin .tTuple (by rfl) T.z_isinstance (jb_v 0) (pe_bltn (v := .ty "tuple") (by rfl) T.z_tuple (by decide +kernel) rfl)))) (jw_or1 (jc_cmp (d_ne hu) (jb (j_bi b_len (by rfl) T.z_len (by decide +kernel) (jb_v 0))) (jb j_int) (nomark _))))) (jss_one (js_ret j_bl)) jss_nil)
    (jss_cons (js_if (jc_not (jc_e (j_bi (b_all rfl) (by rfl) T.z_all (by decide +kernel) (jb (j_f (jf_lc rfl sc_law_is_fraction.nd (jib_seq (jb_v 0)) (blkOk_by (own := [("item", 1)]) (N := n_law_is_fraction) (sc := defScope s_law_is_fraction) (by decide +kernel)) rfl (by decide) (fun _ _ _ _ _ => (jg_n (i := 1) sc_law_is_fraction.nd rfl (by first | exact Or.inl rfl | exact Or.inr rfl))) (fun _ _ _ _ _ => jts_nil) (fun _ _ _ _ _ => (j_and (j_isin .tInt (by rfl) T.z_isinstance (jb_v 1) (pe_bltn (v := .ty "int") (by rfl) T.z_int (by decide +kernel) rfl)) (j_one (j_not (j_isin .tBool (by rfl) T.z_isinstance (jb_v 1) (pe_bltn (v := .ty "bool") (by rfl) T.z_bool (by decide +kernel) rfl)))))))))))) (jss_one (js_ret j_bl)) jss_nil)
    (jss_one (js_ret (j_and (j_cmp d_gt (jb (j_ix (jb_v 0) (jb j_int) (fun _ _ => rfl))) (jb j_int) (nomark _)) (j_one (j_cmp (d_eq hu) (jb (j_call (ok_law_ratio T) (hr.mono (by decide)) (by rfl) T.g_law_ratio T.F_law_ratio.kp T.b_law_ratio hp (ja_cons (j_ix (jb_v 0) (jb j_int) (fun _ _ => rfl)) (ja_cons (j_ix (jb_v 0) (jb j_int) (fun _ _ => rfl)) ja_nil)))) (jb_v 0) (nomark _))))))))
theorem ok_law_less (T : Txt P K mg) : FnOk P w K mg base (L2.CX P w) 1 T.a_law_less T.d_law_less ["a", "b"] (spP K T.κ [false, false] c_law_less) :=
  j_def (κ := T.κ) (N := n_law_less) (T := T_law_less) T.F_law_less sc_law_less rfl fun cdv A outer s H E hr => by
    have tk := takes_of (X := cxOf (L2.CX P w) P w K mg base n_law_less "_law_less" (defScope s_law_less) T.a_law_less cdv A outer s H E) (E := E) rfl rfl rfl rfl
    have hp := passes_call tk fun _ _ _ _ h => h
    have po := passes_of (X := cxOf (L2.CX P w) P w K mg base n_law_less "_law_less" (defScope s_law_less) T.a_law_less cdv A outer s H E) rfl
    have hu := hr.units
    exact (jss_one (js_ret (j_cmp d_lt (jb (j_op d_mul (jb (j_ix (jb_v 0) (jb j_int) (fun _ _ => rfl))) (jb (j_ix (jb_v 1) (jb j_int) (fun _ _ => rfl))))) (jb (j_op d_mul (jb (j_ix (jb_v 1) (jb j_int) (fun _ _ => rfl))) (jb (j_ix (jb_v 0) (jb j_int) (fun _ _ => rfl))))) (nomark _))))
theorem ok_law_in_size (T : Txt P K mg) : FnOk P w K mg base (L2.CX P w) 2 T.a_law_in_size T.d_law_in_size ["row"] (spP K T.κ [false] c_law_in_size) :=
  j_def (κ := T.κ) (N := n_law_in_size) (T := T_law_in_size) T.F_law_in_size sc_law_in_size rfl fun cdv A outer s H E hr => by
    have tk := takes_of (X := cxOf (L2.CX P w) P w K mg base n_law_in_size "_law_in_size" (defScope s_law_in_size) T.a_law_in_size cdv A outer s H E) (E := E) rfl rfl rfl rfl
    have hp := passes_call tk fun _ _ _ _ h => h
    have po := passes_of (X := cxOf (L2.CX P w) P w K mg base n_law_in_size "_law_in_size" (defScope s_law_in_size) T.a_law_in_size cdv A outer s H E) rfl
    have hu := hr.units
    exact (jss_cons (js_own (i := 1) sc_law_in_size.nd rfl (Or.inl rfl) (jf_list (by rfl) T.z_list (jb_v 0)))
    (jss_cons (js_for po rfl (ji_rng1 (by rfl) T.z_range (jb (j_bi b_len (by rfl) T.z_len (by decide +kernel) (jb_v 1)))) (jg_n (i := 2) sc_law_in_size.nd rfl (Or.inl rfl)) (jss_one (js_for po rfl (ji_rng1 (by rfl) T.z_range (jb (j_op d_sub (jb (j_bi b_len (by rfl) T.z_len (by decide +kernel) (jb_v 1))) (jb j_int)))) (jg_n (i := 3) sc_law_in_size.nd rfl (Or.inl rfl)) (jss_one (js_if (jc_e (j_call (ok_law_less T) (hr.mono (by decide)) (by rfl) T.g_law_less T.F_law_less.kp T.b_law_less hp (ja_cons (j_ix (jb_v 1) (jb (j_op d_add (jb_v 3) (jb j_int))) (fun _ _ => rfl)) (ja_cons (j_ix (jb_v 1) (jb_v 3) (fun _ _ => rfl)) ja_nil)))) (jss_one (js_swp 1 1 rfl (j_tup (ja_cons (j_ix (jb_v 1) (jb (j_op d_add (jb_v 3) (jb j_int))) (fun _ _ => rfl)) (ja_cons (j_ix (jb_v 1) (jb_v 3) (fun _ _ => rfl)) ja_nil))) (jb_v 3) (jb (j_op d_add (jb_v 3) (jb j_int))))) jss_nil)))))
    (jss_one (js_frz 1 (js_ret (j_v 1))))))
theorem ok_law_as_even (T : Txt P K mg) : FnOk P w K mg base (L2.CX P w) 5 T.a_law_as_even T.d_law_as_even ["one", "two"] (spP K T.κ [false, false] c_law_as_even) :=
  j_def (κ := T.κ) (N := n_law_as_even) (T := T_law_as_even) T.F_law_as_even sc_law_as_even rfl fun cdv A outer s H E hr => by
    have tk := takes_of (X := cxOf (L2.CX P w) P w K mg base n_law_as_even "_law_as_even" (defScope s_law_as_even) T.a_law_as_even cdv A outer s H E) (E := E) rfl rfl rfl rfl
    have hp := passes_call tk fun _ _ _ _ h => h
    have po := passes_of (X := cxOf (L2.CX P w) P w K mg base n_law_as_even "_law_as_even" (defScope s_law_as_even) T.a_law_as_even cdv A outer s H E) rfl
    have hu := hr.units
    exact (jss_cons (js_unp (j_tup (ja_cons (j_call (ok_law_in_size T) (hr.mono (by decide)) (by rfl) T.g_law_in_size T.F_law_in_size.kp T.b_law_in_size hp (ja_cons (j_v 0) ja_nil)) (ja_cons (j_call (ok_law_in_size T) (hr.mono (by decide)) (by rfl) T.g_law_in_size T.F_law_in_size.kp T.b_law_in_size hp (ja_cons (j_v 1) ja_nil)) ja_nil))) (jg_tup rfl (jgs_cons (jg_n (i := 2) sc_law_as_even.nd rfl (Or.inr rfl)) (jgs_cons (jg_n (i := 3) sc_law_as_even.nd rfl (Or.inr rfl)) jgs_nil)) (tk_cons tk_n (tk_cons tk_n tk_nil))))
    (jss_one (js_ret (j_bi (b_all rfl) (by rfl) T.z_all (by decide +kernel) (jb (j_f (jf_lc rfl sc_law_as_even.nd (ji_b (ji_rng2 (by rfl) T.z_range (jb j_int) (jb (j_bi b_len (by rfl) T.z_len (by decide +kernel) (jb_v 2))))) (blkOk_by (own := [("k", 4)]) (N := n_law_as_even) (sc := defScope s_law_as_even) (by decide +kernel)) rfl (by decide) (fun _ _ _ _ _ => (jg_n (i := 4) sc_law_as_even.nd rfl (by first | exact Or.inl rfl | exact Or.inr rfl))) (fun _ _ _ _ _ => jts_nil) (fun _ _ _ _ _ => (j_not (j_call (ok_law_less T) (hr.mono (by decide)) (by rfl) T.g_law_less T.F_law_less.kp T.b_law_less passL (ja_cons (j_call (ok_law_sum T) (hr.mono (by decide)) (by rfl) T.g_law_sum T.F_law_sum.kp T.b_law_sum passL (ja_cons (j_sl (jb_v 2) jp_none (jp_some (jb_v 4))) ja_nil)) (ja_cons (j_call (ok_law_sum T) (hr.mono (by decide)) (by rfl) T.g_law_sum T.F_law_sum.kp T.b_law_sum passL (ja_cons (j_sl (jb_v 3) jp_none (jp_some (jb_v 4))) ja_nil)) ja_nil))))))))))))
theorem ok_law_times (T : Txt P K mg) : FnOk P w K mg base (L2.CX P w) 3 T.a_law_times T.d_law_times ["a", "b"] (spP K T.κ [false, false] c_law_times) :=
  j_def (κ := T.κ) (N := n_law_times) (T := T_law_times) T.F_law_times sc_law_times rfl fun cdv A outer s H E hr => by
    have tk := takes_of (X := cxOf (L2.CX P w) P w K mg base n_law_times "_law_times" (defScope s_law_times) T.a_law_times cdv A outer s H E) (E := E) rfl rfl rfl rfl
    have hp := passes_call tk fun _ _ _ _ h => h
    have po := passes_of (X := cxOf (L2.CX P w) P w K mg base n_law_times "_law_times" (defScope s_law_times) T.a_law_times cdv A outer s H E) rfl
    have hu := hr.units
    exact (jss_one (js_ret (j_call (ok_law_ratio T) (hr.mono (by decide)) (by rfl) T.g_law_ratio T.F_law_ratio.kp T.b_law_ratio hp (ja_cons (j_op d_mul (jb (j_ix (jb_v 0) (jb j_int) (fun _ _ => rfl))) (jb (j_ix (jb_v 1) (jb j_int) (fun _ _ => rfl)))) (ja_cons (j_op d_mul (jb (j_ix (jb_v 0) (jb j_int) (fun _ _ => rfl))) (jb (j_ix (jb_v 1) (jb j_int) (fun _ _ => rfl)))) ja_nil)))))
theorem ok_law_after (T : Txt P K mg) : FnOk P w K mg base (L2.CX P w) 5 T.a_law_after T.d_law_after ["moves", "shares"] (spP K T.κ [false, false] c_law_after) :=
  j_def (κ := T.κ) (N := n_law_after) (T := T_law_after) T.F_law_after sc_law_after rfl fun cdv A outer s H E hr => by
    have tk := takes_of (X := cxOf (L2.CX P w) P w K mg base n_law_after "_law_after" (defScope s_law_after) T.a_law_after cdv A outer s H E) (E := E) rfl rfl rfl rfl
    have hp := passes_call tk fun _ _ _ _ h => h
    have po := passes_of (X := cxOf (L2.CX P w) P w K mg base n_law_after "_law_after" (defScope s_law_after) T.a_law_after cdv A outer s H E) rfl
    have hu := hr.units
    exact (jss_cons (js_set (i := 2) sc_law_after.nd rfl (Or.inr rfl) (j_bi b_len (by rfl) T.z_len (by decide +kernel) (jb_v 0)))
    (jss_one (js_ret (j_ty b_tuple (by rfl) T.z_tuple (by decide +kernel) (jb (j_f (jf_lc rfl sc_law_after.nd (ji_b (ji_rng1 (by rfl) T.z_range (jb_v 2))) (blkOk_by (own := [("j", 4)]) (N := n_law_after) (sc := defScope s_law_after) (by decide +kernel)) rfl (by decide) (fun _ _ _ _ _ => (jg_n (i := 4) sc_law_after.nd rfl (by first | exact Or.inl rfl | exact Or.inr rfl))) (fun _ _ _ _ _ => jts_nil) (fun _ _ _ _ _ => (j_call (ok_law_sum T) (hr.mono (by decide)) (by rfl) T.g_law_sum T.F_law_sum.kp T.b_law_sum passL (ja_cons (j_f (jf_lc rfl sc_law_after.nd (ji_b (ji_rng1 (by rfl) T.z_range (jb_v 2))) (blkOk_by (own := [("i", 3)]) (by rfl)) rfl (by decide) (fun _ _ _ _ _ => (jg_n (i := 3) sc_law_after.nd rfl (by first | exact Or.inl rfl | exact Or.inr rfl))) (fun _ _ _ _ _ => jts_nil) (fun _ _ _ _ _ => (j_call (ok_law_times T) (hr.mono (by decide)) (by rfl) T.g_law_times T.F_law_times.kp T.b_law_times passL (ja_cons (j_ix (jb_v 1) (jb_v 3) (fun _ _ => rfl)) (ja_cons (j_ix (jb (j_ix (jb_v 0) (jb_v 3) (fun _ _ => rfl))) (jb_v 4) (fun _ _ => rfl)) ja_nil)))))) ja_nil))))))))))
theorem ok_law_is_objection (T : Txt P K mg) : FnOk P w K mg base (L2.CX P w) 6 T.a_law_is_objection T.d_law_is_objection ["moves", "value"] (spP K T.κ [false, false] c_law_is_objection) :=
  j_def (κ := T.κ) (N := n_law_is_objection) (T := T_law_is_objection) T.F_law_is_objection sc_law_is_objection rfl fun cdv A outer s H E hr => by
    have tk := takes_of (X := cxOf (L2.CX P w) P w K mg base n_law_is_objection "_law_is_objection" (defScope s_law_is_objection) T.a_law_is_objection cdv A outer s H E) (E := E) rfl rfl rfl rfl
    have hp := passes_call tk fun _ _ _ _ h => h
    have po := passes_of (X := cxOf (L2.CX P w) P w K mg base n_law_is_objection "_law_is_objection" (defScope s_law_is_objection) T.a_law_is_objection cdv A outer s H E) rfl
    have hu := hr.units
    exact (jss_cons (js_if (jw (jw_or (jc_not (jc_e (j_isin .tTuple (by rfl) T.z_isinstance (jb_v 1) (pe_bltn (v := .ty "tuple") (by rfl) T.z_tuple (by decide +kernel) rfl)))) (jw_or (jc_cmp (d_ne hu) (jb (j_bi b_len (by rfl) T.z_len (by decide +kernel) (jb_v 1))) (jb (j_bi b_len (by rfl) T.z_len (by decide +kernel) (jb_v 0))) (nomark _)) (jw_or1 (jc_not (jc_e (j_bi (b_all rfl) (by rfl) T.z_all (by decide +kernel) (jb (j_f (jf_lc rfl sc_law_is_objection.nd (jib_seq (jb_v 1)) (blkOk_by (own := [("item", 2)]) (N := n_law_is_objection) (sc := defScope s_law_is_objection) (by decide +kernel)) rfl (by decide) (fun _ _ _ _ _ => (jg_n (i := 2) sc_law_is_objection.nd rfl (by first | exact Or.inl rfl | exact Or.inr rfl))) (fun _ _ _ _ _ => jts_nil) (fun _ _ _ _ _ => (j_call (ok_law_is_fraction T) (hr.mono (by decide)) (by rfl) T.g_law_is_fraction T.F_law_is_fraction.kp T.b_law_is_fraction passL (ja_cons (j_v 2) ja_nil))))))))))))) (jss_one (js_ret j_bl)) jss_nil)
    (jss_cons (js_if (jw (jw_or (jc_e (j_bi (b_any rfl) (by rfl) T.z_any (by decide +kernel) (jb (j_f (jf_lc rfl sc_law_is_objection.nd (jib_seq (jb_v 1)) (blkOk_by (own := [("item", 2)]) (N := n_law_is_objection) (sc := defScope s_law_is_objection) (by decide +kernel)) rfl (by decide) (fun _ _ _ _ _ => (jg_n (i := 2) sc_law_is_objection.nd rfl (by first | exact Or.inl rfl | exact Or.inr rfl))) (fun _ _ _ _ _ => jts_nil) (fun _ _ _ _ _ => (j_cmp d_lt (jb (j_ix (jb_v 2) (jb j_int) (fun _ _ => rfl))) (jb j_int) (nomark _)))))))) (jw_or1 (jc_cmp (d_ne hu) (jb (j_call (ok_law_sum T) (hr.mono (by decide)) (by rfl) T.g_law_sum T.F_law_sum.kp T.b_law_sum hp (ja_cons (j_v 1) ja_nil))) (jb (j_tup (ja_cons j_int (ja_cons j_int ja_nil)))) (nomark _))))) (jss_one (js_ret j_bl)) jss_nil)
    (jss_one (js_ret (j_not (j_call (ok_law_as_even T) (hr.mono (by decide)) (by rfl) T.g_law_as_even T.F_law_as_even.kp T.b_law_as_even hp (ja_cons (j_call (ok_law_after T) (hr.mono (by decide)) (by rfl) T.g_law_after T.F_law_after.kp T.b_law_after hp (ja_cons (j_v 0) (ja_cons (j_v 1) ja_nil))) (ja_cons (j_v 1) ja_nil))))))))
theorem ok_law_says (T : Txt P K mg) : FnOk P w K mg base (L2.CX P w) 1 T.a_law_says T.d_law_says ["value", "due"] (spP K T.κ [false, false] c_law_says) :=
  j_def (κ := T.κ) (N := n_law_says) (T := T_law_says) T.F_law_says sc_law_says rfl fun cdv A outer s H E hr => by
    have tk := takes_of (X := cxOf (L2.CX P w) P w K mg base n_law_says "_law_says" (defScope s_law_says) T.a_law_says cdv A outer s H E) (E := E) rfl rfl rfl rfl
    have hp := passes_call tk fun _ _ _ _ h => h
    have po := passes_of (X := cxOf (L2.CX P w) P w K mg base n_law_says "_law_says" (defScope s_law_says) T.a_law_says cdv A outer s H E) rfl
    have hu := hr.units
    exact (jss_one (js_ret (j_and (j_isin .tBool (by rfl) T.z_isinstance (jb_v 0) (pe_bltn (v := .ty "bool") (by rfl) T.z_bool (by decide +kernel) rfl)) (j_one (j_cmp (d_eq hu) (jb_v 0) (jb_v 1) (nomark _))))))
theorem ok_below (T : Txt P K mg) : FnOk P w K mg base (L2.CX P w) 1 T.a_below T.d_below ["a", "b"] (spP K T.κ [false, false] c_below) :=
  j_def (κ := T.κ) (N := n_below) (T := T_below) T.F_below sc_below rfl fun cdv A outer s H E hr => by
    have tk := takes_of (X := cxOf (L2.CX P w) P w K mg base n_below "below" (defScope s_below) T.a_below cdv A outer s H E) (E := E) rfl rfl rfl rfl
    have hp := passes_call tk fun _ _ _ _ h => h
    have po := passes_of (X := cxOf (L2.CX P w) P w K mg base n_below "below" (defScope s_below) T.a_below cdv A outer s H E) rfl
    have hu := hr.units
    exact (jss_one (js_ret (j_cmp d_lt (jb (j_op d_mul (jb (j_ix (jb_v 0) (jb j_int) (fun _ _ => rfl))) (jb (j_ix (jb_v 1) (jb j_int) (fun _ _ => rfl))))) (jb (j_op d_mul (jb (j_ix (jb_v 1) (jb j_int) (fun _ _ => rfl))) (jb (j_ix (jb_v 0) (jb j_int) (fun _ _ => rfl))))) (nomark _))))
theorem ok_in_size (T : Txt P K mg) : FnOk P w K mg base (L2.CX P w) 2 T.a_in_size T.d_in_size ["row"] (spP K T.κ [false] c_in_size) :=
  j_def (κ := T.κ) (N := n_in_size) (T := T_in_size) T.F_in_size sc_in_size rfl fun cdv A outer s H E hr => by
    have tk := takes_of (X := cxOf (L2.CX P w) P w K mg base n_in_size "in_size" (defScope s_in_size) T.a_in_size cdv A outer s H E) (E := E) rfl rfl rfl rfl
    have hp := passes_call tk fun _ _ _ _ h => h
    have po := passes_of (X := cxOf (L2.CX P w) P w K mg base n_in_size "in_size" (defScope s_in_size) T.a_in_size cdv A outer s H E) rfl
    have hu := hr.units
    exact (jss_cons (js_own (i := 1) sc_in_size.nd rfl (Or.inl rfl) (jf_lst ja_nil))
    (jss_cons (js_for po rfl (ji_seq (j_v 0)) (jg_n (i := 2) sc_in_size.nd rfl (Or.inr rfl)) (jss_one (js_insert 1 (jb (j_bi b_len (by rfl) T.z_len (by decide +kernel) (jb (j_f (jf_lc rfl sc_in_size.nd (jib_seq (jb_v 1)) (blkOk_by (own := [("other", 3)]) (N := n_in_size) (sc := defScope s_in_size) (by decide +kernel)) rfl (by decide) (fun _ _ _ _ _ => (jg_n (i := 3) sc_in_size.nd rfl (by first | exact Or.inl rfl | exact Or.inr rfl))) (fun _ _ _ _ _ => (jts_one (jc_e (j_call (ok_below T) (hr.mono (by decide)) (by rfl) T.g_below T.F_below.kp T.b_below passL (ja_cons (j_v 3) (ja_cons (j_v 2) ja_nil)))))) (fun _ _ _ _ _ => (j_v 3))))))) (j_v 2))))
    (jss_one (js_frz 1 (js_ret (j_v 1))))))
theorem ok_is_as_even (T : Txt P K mg) : FnOk P w K mg base (L2.CX P w) 5 T.a_is_as_even T.d_is_as_even ["one", "two"] (spP K T.κ [false, false] c_is_as_even) :=
  j_def (κ := T.κ) (N := n_is_as_even) (T := T_is_as_even) T.F_is_as_even sc_is_as_even rfl fun cdv A outer s H E hr => by
    have tk := takes_of (X := cxOf (L2.CX P w) P w K mg base n_is_as_even "is_as_even" (defScope s_is_as_even) T.a_is_as_even cdv A outer s H E) (E := E) rfl rfl rfl rfl
    have hp := passes_call tk fun _ _ _ _ h => h
    have po := passes_of (X := cxOf (L2.CX P w) P w K mg base n_is_as_even "is_as_even" (defScope s_is_as_even) T.a_is_as_even cdv A outer s H E) rfl
    have hu := hr.units
    exact (jss_cons (js_unp (j_tup (ja_cons (j_call (ok_in_size T) (hr.mono (by decide)) (by rfl) T.g_in_size T.F_in_size.kp T.b_in_size hp (ja_cons (j_v 0) ja_nil)) (ja_cons (j_call (ok_in_size T) (hr.mono (by decide)) (by rfl) T.g_in_size T.F_in_size.kp T.b_in_size hp (ja_cons (j_v 1) ja_nil)) ja_nil))) (jg_tup rfl (jgs_cons (jg_n (i := 2) sc_is_as_even.nd rfl (Or.inr rfl)) (jgs_cons (jg_n (i := 3) sc_is_as_even.nd rfl (Or.inr rfl)) jgs_nil)) (tk_cons tk_n (tk_cons tk_n tk_nil))))
    (jss_one (js_ret (j_not (j_bi (b_any rfl) (by rfl) T.z_any (by decide +kernel) (jb (j_f (jf_lc rfl sc_is_as_even.nd (ji_b (ji_rng2 (by rfl) T.z_range (jb j_int) (jb (j_bi b_len (by rfl) T.z_len (by decide +kernel) (jb_v 2))))) (blkOk_by (own := [("k", 4)]) (N := n_is_as_even) (sc := defScope s_is_as_even) (by decide +kernel)) rfl (by decide) (fun _ _ _ _ _ => (jg_n (i := 4) sc_is_as_even.nd rfl (by first | exact Or.inl rfl | exact Or.inr rfl))) (fun _ _ _ _ _ => jts_nil) (fun _ _ _ _ _ => (j_call (ok_below T) (hr.mono (by decide)) (by rfl) T.g_below T.F_below.kp T.b_below passL (ja_cons (j_call (ok_total T) (hr.mono (by decide)) (by rfl) T.g_total T.F_total.kp T.b_total passL (ja_cons (j_sl (jb_v 2) jp_none (jp_some (jb_v 4))) ja_nil)) (ja_cons (j_call (ok_total T) (hr.mono (by decide)) (by rfl) T.g_total T.F_total.kp T.b_total passL (ja_cons (j_sl (jb_v 3) jp_none (jp_some (jb_v 4))) ja_nil)) ja_nil))))))))))))
theorem ok_times (T : Txt P K mg) : FnOk P w K mg base (L2.CX P w) 3 T.a_times T.d_times ["a", "b"] (spP K T.κ [false, false] c_times) :=
  j_def (κ := T.κ) (N := n_times) (T := T_times) T.F_times sc_times rfl fun cdv A outer s H E hr => by
    have tk := takes_of (X := cxOf (L2.CX P w) P w K mg base n_times "times" (defScope s_times) T.a_times cdv A outer s H E) (E := E) rfl rfl rfl rfl
    have hp := passes_call tk fun _ _ _ _ h => h
    have po := passes_of (X := cxOf (L2.CX P w) P w K mg base n_times "times" (defScope s_times) T.a_times cdv A outer s H E) rfl
    have hu := hr.units
    exact (jss_one (js_ret (j_call (ok_lowest T) (hr.mono (by decide)) (by rfl) T.g_lowest T.F_lowest.kp T.b_lowest hp (ja_cons (j_op d_mul (jb (j_ix (jb_v 0) (jb j_int) (fun _ _ => rfl))) (jb (j_ix (jb_v 1) (jb j_int) (fun _ _ => rfl)))) (ja_cons (j_op d_mul (jb (j_ix (jb_v 0) (jb j_int) (fun _ _ => rfl))) (jb (j_ix (jb_v 1) (jb j_int) (fun _ _ => rfl)))) ja_nil)))))
theorem ok_stepped (T : Txt P K mg) : FnOk P w K mg base (L2.CX P w) 5 T.a_stepped T.d_stepped ["moves", "shares"] (spP K T.κ [false, false] c_stepped) :=
  j_def (κ := T.κ) (N := n_stepped) (T := T_stepped) T.F_stepped sc_stepped rfl fun cdv A outer s H E hr => by
    have tk := takes_of (X := cxOf (L2.CX P w) P w K mg base n_stepped "stepped" (defScope s_stepped) T.a_stepped cdv A outer s H E) (E := E) rfl rfl rfl rfl
    have hp := passes_call tk fun _ _ _ _ h => h
    have po := passes_of (X := cxOf (L2.CX P w) P w K mg base n_stepped "stepped" (defScope s_stepped) T.a_stepped cdv A outer s H E) rfl
    have hu := hr.units
    exact (jss_cons (js_rng (i := 2) sc_stepped.nd rfl (Or.inr rfl) (by rfl) T.z_range (jb (j_bi b_len (by rfl) T.z_len (by decide +kernel) (jb_v 0))))
    (jss_one (js_ret (j_ty b_tuple (by rfl) T.z_tuple (by decide +kernel) (jb (j_f (jf_lc rfl sc_stepped.nd (ji_b (ji_rngV 2)) (blkOk_by (own := [("j", 4)]) (N := n_stepped) (sc := defScope s_stepped) (by decide +kernel)) rfl (by decide) (fun _ _ _ _ _ => (jg_n (i := 4) sc_stepped.nd rfl (by first | exact Or.inl rfl | exact Or.inr rfl))) (fun _ _ _ _ _ => jts_nil) (fun _ _ _ _ _ => (j_call (ok_total T) (hr.mono (by decide)) (by rfl) T.g_total T.F_total.kp T.b_total passL (ja_cons (j_f (jf_lc rfl sc_stepped.nd (ji_b (ji_rngV 2)) (blkOk_by (own := [("i", 3)]) (by rfl)) rfl (by decide) (fun _ _ _ _ _ => (jg_n (i := 3) sc_stepped.nd rfl (by first | exact Or.inl rfl | exact Or.inr rfl))) (fun _ _ _ _ _ => jts_nil) (fun _ _ _ _ _ => (j_call (ok_times T) (hr.mono (by decide)) (by rfl) T.g_times T.F_times.kp T.b_times passL (ja_cons (j_ix (jb_v 1) (jb_v 3) (fun _ _ => rfl)) (ja_cons (j_ix (jb (j_ix (jb_v 0) (jb_v 3) (fun _ _ => rfl))) (jb_v 4) (fun _ _ => rfl)) ja_nil)))))) ja_nil))))))))))
theorem ok_takes_mixing_objection (T : Txt P K mg) : FnOk P w K mg base (L2.CX P w) 8 T.a_takes_mixing_objection T.d_takes_mixing_objection ["moves", "value"] (spP K T.κ [false, false] c_takes_mixing_objection) :=
  j_def (κ := T.κ) (N := n_takes_mixing_objection) (T := T_takes_mixing_objection) T.F_takes_mixing_objection sc_takes_mixing_objection rfl fun cdv A outer s H E hr => by
    have tk := takes_of (X := cxOf (L2.CX P w) P w K mg base n_takes_mixing_objection "takes_mixing_objection" (defScope s_takes_mixing_objection) T.a_takes_mixing_objection cdv A outer s H E) (E := E) rfl rfl rfl rfl
    have hp := passes_call tk fun _ _ _ _ h => h
    have po := passes_of (X := cxOf (L2.CX P w) P w K mg base n_takes_mixing_objection "takes_mixing_objection" (defScope s_takes_mixing_objection) T.a_takes_mixing_objection cdv A outer s H E) rfl
    have hu := hr.units
    exact (jss_cons (js_ex (j_call (ok_check_moves T) (hr.mono (by decide)) (by rfl) T.g_check_moves T.F_check_moves.kp T.b_check_moves hp (ja_cons (j_v 0) ja_nil)))
    (jss_one (js_ret (j_and (j_call (ok_fits_shares T) (hr.mono (by decide)) (by rfl) T.g_fits_shares T.F_fits_shares.kp T.b_fits_shares hp (ja_cons (j_v 1) (ja_cons (j_bi b_len (by rfl) T.z_len (by decide +kernel) (jb_v 0)) ja_nil))) (j_one (j_not (j_call (ok_is_as_even T) (hr.mono (by decide)) (by rfl) T.g_is_as_even T.F_is_as_even.kp T.b_is_as_even hp (ja_cons (j_call (ok_stepped T) (hr.mono (by decide)) (by rfl) T.g_stepped T.F_stepped.kp T.b_stepped hp (ja_cons (j_v 0) (ja_cons (j_v 1) ja_nil))) (ja_cons (j_v 1) ja_nil)))))))))
theorem ok_law_odd_moves (T : Txt P K mg) : FnOk P w K mg base (L2.CX P w) 2 T.a_law_odd_moves T.d_law_odd_moves ["draw", "moves"] (spP K T.κ [true, false] c_law_odd_moves) :=
  j_def (κ := T.κ) (N := n_law_odd_moves) (T := T_law_odd_moves) T.F_law_odd_moves sc_law_odd_moves rfl fun cdv A outer s H E hr => by
    have tk := takes_of (X := cxOf (L2.CX P w) P w K mg base n_law_odd_moves "_law_odd_moves" (defScope s_law_odd_moves) T.a_law_odd_moves cdv A outer s H E) (E := E) rfl rfl rfl rfl
    have hp := passes_call tk fun _ _ _ _ h => h
    have po := passes_of (X := cxOf (L2.CX P w) P w K mg base n_law_odd_moves "_law_odd_moves" (defScope s_law_odd_moves) T.a_law_odd_moves cdv A outer s H E) rfl
    have hu := hr.units
    exact (jss_cons (js_set (i := 2) sc_law_odd_moves.nd rfl (Or.inl rfl) (j_bi b_len (by rfl) T.z_len (by decide +kernel) (jb_v 1)))
    (jss_cons (js_set (i := 3) sc_law_odd_moves.nd rfl (Or.inl rfl) (j_tup (ja_cons j_int (ja_cons j_int ja_nil))))
    (jss_cons (js_own (i := 4) sc_law_odd_moves.nd rfl (Or.inl rfl) (jf_lst (ja_cons j_non (ja_cons (j_tup ja_nil) (ja_cons (j_f (jf_lc rfl sc_law_odd_moves.nd (jib_seq (jb_v 1)) (blkOk_by (own := [("row", 5)]) (N := n_law_odd_moves) (sc := defScope s_law_odd_moves) (by decide +kernel)) rfl (by decide) (fun _ _ _ _ _ => (jg_n (i := 5) sc_law_odd_moves.nd rfl (by first | exact Or.inl rfl | exact Or.inr rfl))) (fun _ _ _ _ _ => jts_nil) (fun _ _ _ _ _ => (j_f (jf_list (by rfl) T.z_list (jb_v 5)))))) (ja_cons (j_f (jf_list (by rfl) T.z_list (jb_v 1))) (ja_cons (j_sl (jb_v 1) (jp_some (jb j_int)) jp_none) (ja_cons (j_op d_add (jb_v 1) (jb (j_sl (jb_v 1) jp_none (jp_some (jb j_int))))) (ja_cons (j_tup (ja_cons (j_tup (ja_cons j_int (ja_cons j_int ja_nil))) ja_nil)) (ja_cons (j_tup (ja_cons (j_tup (ja_cons (j_tup (ja_cons j_int (ja_cons j_int ja_nil))) ja_nil)) ja_nil)) (ja_cons (j_tup (ja_cons (j_tup (ja_cons (j_v 3) (ja_cons (j_v 3) ja_nil))) (ja_cons (j_tup (ja_cons (j_v 3) (ja_cons (j_tup (ja_cons j_int (ja_cons j_int ja_nil))) ja_nil))) ja_nil))) ja_nil)))))))))))
    (jss_cons (js_own (i := 4) sc_law_odd_moves.nd rfl (Or.inl rfl) (jf_cat (jb_v 4) (jb (j_f (jf_lst (ja_cons (j_tup (ja_cons (j_tup (ja_cons (j_v 3) (ja_cons (j_v 3) ja_nil))) (ja_cons (j_tup (ja_cons (j_tup (ja_cons j_int (ja_cons j_int ja_nil))) (ja_cons (j_v 3) ja_nil))) ja_nil))) (ja_cons (j_tup (ja_cons (j_tup (ja_cons (j_v 3) (ja_cons (j_v 3) ja_nil))) (ja_cons (j_tup (ja_cons (j_tup (ja_cons j_int (ja_cons j_int ja_nil))) (ja_cons (j_tup (ja_cons (j_un d_neg (jb j_int)) (ja_cons j_int ja_nil))) ja_nil))) ja_nil))) (ja_cons (j_tup (ja_cons (j_tup (ja_cons (j_v 3) (ja_cons (j_v 3) ja_nil))) (ja_cons (j_f (jf_lst (ja_cons (j_v 3) (ja_cons (j_v 3) ja_nil)))) ja_nil))) (ja_cons (j_tup (ja_cons (j_tup (ja_cons (j_v 3) (ja_cons (j_v 3) ja_nil))) (ja_cons (j_tup (ja_cons (j_v 3) (ja_cons (j_v 3) (ja_cons (j_tup (ja_cons j_int (ja_cons j_int ja_nil))) ja_nil)))) ja_nil))) (ja_cons (j_tup (ja_cons (j_tup (ja_cons (j_v 3) (ja_cons (j_v 3) ja_nil))) (ja_cons (j_tup (ja_cons (j_tup (ja_cons j_bl (ja_cons j_int ja_nil))) (ja_cons (j_v 3) ja_nil))) ja_nil))) (ja_cons (j_tup (ja_cons (j_tup (ja_cons (j_v 3) (ja_cons (j_v 3) ja_nil))) (ja_cons j_int ja_nil))) ja_nil)))))))))))
    (jss_cons (js_own (i := 4) sc_law_odd_moves.nd rfl (Or.inl rfl) (jf_cat (jb_v 4) (jb (j_f (jf_lst (ja_cons (j_tup (ja_cons (j_tup (ja_cons (j_v 3) (ja_cons (j_v 3) ja_nil))) (ja_cons (j_tup (ja_cons (j_tup (ja_cons j_int (ja_cons j_int ja_nil))) (ja_cons (j_tup (ja_cons j_int (ja_cons j_int ja_nil))) ja_nil))) ja_nil))) (ja_cons (j_op d_add (jb (j_tup (ja_cons (j_sl (jb (j_ix (jb_v 1) (jb j_int) (fun _ _ => rfl))) jp_none (jp_some (jb (j_op d_sub (jb_v 2) (jb j_int))))) ja_nil))) (jb (j_sl (jb_v 1) (jp_some (jb j_int)) jp_none))) (ja_cons (j_op d_mul (jb (j_tup (ja_cons (j_op d_add (jb (j_tup (ja_cons (j_tup (ja_cons j_int (ja_cons j_int ja_nil))) ja_nil))) (jb (j_op d_mul (jb (j_tup (ja_cons (j_tup (ja_cons j_int (ja_cons j_int ja_nil))) ja_nil))) (jb j_int)))) ja_nil))) (jb j_int)) ja_nil))))))))
    (jss_one (js_ret (j_ix (jb_v 4) (jb (j_call (ok_law_take T) (hr.mono (by decide)) (by rfl) T.g_law_take T.F_law_take.kp T.b_law_take hp (ja_draw 0 (ja_cons (j_bi b_len (by rfl) T.z_len (by decide +kernel) (jb_v 4)) ja_nil)))) (fun _ _ => rfl)))))))))
theorem ok_law_told (T : Txt P K mg) : FnOk P w K mg base (L2.CX P w) 9 T.a_law_told T.d_law_told ["which", "moves"] (spP K T.κ [false, false] c_law_told) :=
  j_def (κ := T.κ) (N := n_law_told) (T := T_law_told) T.F_law_told sc_law_told rfl fun cdv A outer s H E hr => by
    have tk := takes_of (X := cxOf (L2.CX P w) P w K mg base n_law_told "_law_told" (defScope s_law_told) T.a_law_told cdv A outer s H E) (E := E) rfl rfl rfl rfl
    have hp := passes_call tk fun _ _ _ _ h => h
    have po := passes_of (X := cxOf (L2.CX P w) P w K mg base n_law_told "_law_told" (defScope s_law_told) T.a_law_told cdv A outer s H E) rfl
    have hu := hr.units
    exact (jss_one (js_tryM rfl rfl ⟨rfl, by decide, .inl T.gM⟩ tk rfl T.eM (fun _ h => nomatch h) (fun _ h => nomatch h) (fun W1 pn xe tk1 po1 => (jss_one (js_ret (j_if (jc_cmp (d_eq hu) (jb_v 0) (jb j_int) (nomark _)) (j_call (ok_mixing_objection T) (hr.mono (by decide)) (by rfl) T.g_mixing_objection T.F_mixing_objection.kp T.b_mixing_objection (passes_call tk1 fun _ _ _ _ h => h) (ja_cons (j_v 1) ja_nil)) (j_call (ok_takes_mixing_objection T) (hr.mono (by decide)) (by rfl) T.g_takes_mixing_objection T.F_takes_mixing_objection.kp T.b_takes_mixing_objection (passes_call tk1 fun _ _ _ _ h => h) (ja_cons (j_v 1) (ja_cons j_non ja_nil))))))) (fun a pn => (jss_one (js_ret j_str)))))
theorem ok_law (T : Txt P K mg) (hT : lawOk 17 T_law) : LawRun P w K mg T.a_law := fun mb a s1 vs ns KX hG hB hBB hlim hgens hscr hints hl =>
  law_run (κ := T.κ) (N := n_law) (k := 9) (T := T_law) KX hG hB hBB hlim hgens hscr hints hl T.F_law sc_law ⟨rfl, by decide, by decide⟩ T.i_law (fun base cdv A outer s H E hgd0 hr => by
    have hgd : (cxOf (L2.CX P w) P w K mg base n_law "law" (defScope s_law) T.a_law cdv A outer s H E).A.guards = some [] := hgd0
    have tk := takes_of (X := cxOf (L2.CX P w) P w K mg base n_law "law" (defScope s_law) T.a_law cdv A outer s H E) (E := E) rfl rfl rfl rfl
    have hp := passes_call tk fun _ _ _ _ h => h
    have po := passes_of (X := cxOf (L2.CX P w) P w K mg base n_law "law" (defScope s_law) T.a_law cdv A outer s H E) rfl
    have hu := hr.units
    exact (jss_cons (js_draw (i := 1) (j := 0) sc_law.nd rfl (Or.inl rfl) (ok_law_draw T) (hr.mono (by decide)) (by rfl) T.g_law_draw T.F_law_draw.kp T.b_law_draw hp)
    (jss_cons (js_for po rfl (ji_rng1 (by rfl) T.z_range (jb j_int)) (jg_n (i := 2) sc_law.nd rfl (Or.inl rfl)) (jss_cons (js_set (i := 3) sc_law.nd rfl (Or.inl rfl) (j_call (ok_law_take T) (hr.mono (by decide)) (by rfl) T.g_law_take T.F_law_take.kp T.b_law_take hp (ja_draw 1 (ja_cons j_int ja_nil))))
    (jss_cons (js_set (i := 4) sc_law.nd rfl (Or.inr rfl) (j_if (jc_cmp (d_eq hu) (jb_v 3) (jb j_int) (nomark _)) (j_call (ok_law_moves T) (hr.mono (by decide)) (by rfl) T.g_law_moves T.F_law_moves.kp T.b_law_moves hp (ja_draw 1 (ja_cons j_int ja_nil))) (j_call (ok_law_mixed T) (hr.mono (by decide)) (by rfl) T.g_law_mixed T.F_law_mixed.kp T.b_law_mixed hp (ja_draw 1 ja_nil))))
    (jss_cons (js_set (i := 5) sc_law.nd rfl (Or.inl rfl) (j_bi b_len (by rfl) T.z_len (by decide +kernel) (jb_v 4)))
    (jss_cons (js_if (jc_cmp (d_eq hu) (jb_v 3) (jb j_int) (nomark _)) (jss_cons (js_set (i := 6) sc_law.nd rfl (Or.inl rfl) (j_call (ok_law_take T) (hr.mono (by decide)) (by rfl) T.g_law_take T.F_law_take.kp T.b_law_take hp (ja_draw 1 (ja_cons (j_v 5) ja_nil))))
    (jss_one (js_set (i := 4) sc_law.nd rfl (Or.inr rfl) (j_op d_add (jb (j_op d_add (jb (j_sl (jb_v 4) jp_none (jp_some (jb_v 6)))) (jb (j_tup (ja_cons (j_call (ok_law_shares T) (hr.mono (by decide)) (by rfl) T.g_law_shares T.F_law_shares.kp T.b_law_shares hp (ja_draw 1 (ja_cons (j_v 5) ja_nil))) ja_nil))))) (jb (j_sl (jb_v 4) (jp_some (jb (j_op d_add (jb_v 6) (jb j_int)))) jp_none)))))) jss_nil)
    (jss_cons (js_if (jc_not (jc_e (j_call (ok_is_moves T) (hr.mono (by decide)) (by rfl) T.g_is_moves T.F_is_moves.kp T.b_is_moves hp (ja_cons (j_v 4) ja_nil)))) (jss_one (js_ret j_bl)) jss_nil)
    (jss_cons (js_set (i := 7) sc_law.nd rfl (Or.inl rfl) (j_bi (b_all rfl) (by rfl) T.z_all (by decide +kernel) (jb (j_f (jf_lc rfl sc_law.nd (ji_b (ji_rng1 (by rfl) T.z_range (jb_v 5))) (blkOk_by (own := [("j", 15)]) (N := n_law) (sc := defScope s_law) (by decide +kernel)) rfl (by decide) (fun _ _ _ _ _ => (jg_n (i := 15) sc_law.nd rfl (by first | exact Or.inl rfl | exact Or.inr rfl))) (fun _ _ _ _ _ => jts_nil) (fun _ _ _ _ _ => (j_cmp (d_eq hu) (jb (j_call (ok_law_sum T) (hr.mono (by decide)) (by rfl) T.g_law_sum T.F_law_sum.kp T.b_law_sum passL (ja_cons (j_f (jf_lc rfl sc_law.nd (jib_seq (jb_v 4)) (blkOk_by (own := [("row", 14)]) (by rfl)) rfl (by decide) (fun _ _ _ _ _ => (jg_n (i := 14) sc_law.nd rfl (by first | exact Or.inl rfl | exact Or.inr rfl))) (fun _ _ _ _ _ => jts_nil) (fun _ _ _ _ _ => (j_ix (jb_v 14) (jb_v 15) (fun _ _ => rfl))))) ja_nil))) (jb (j_tup (ja_cons j_int (ja_cons j_int ja_nil)))) (nomark _))))))))
    (jss_cons (js_set (i := 8) sc_law.nd rfl (Or.inl rfl) (j_call (ok_mixing_objection T) (hr.mono (by decide)) (by rfl) T.g_mixing_objection T.F_mixing_objection.kp T.b_mixing_objection hp (ja_cons (j_v 4) ja_nil)))
    (jss_cons (js_if (jw (jw_or (jc_cmp (d_ne hu) (jb (j_isN (jb_v 8)).1) (jb_v 7) (nomark _)) (jw_or1 (jw (jw_and (j_notN (jb_v 8)).2 (jw_and1 (jc_not (jc_e (j_call (ok_law_is_objection T) (hr.mono (by decide)) (by rfl) T.g_law_is_objection T.F_law_is_objection.kp T.b_law_is_objection hp (ja_cons (j_v 4) (ja_cons (j_v 8) ja_nil))))))))))) (jss_one (js_ret j_bl)) jss_nil)
    (jss_cons (js_own (i := 9) sc_law.nd rfl (Or.inl rfl) (jf_lst (ja_cons (j_v 8) (ja_cons j_non (ja_cons (j_tup ja_nil) (ja_cons (j_v 4) (ja_cons (j_ix (jb_v 4) (jb j_int) (fun _ _ => rfl)) (ja_cons (j_f (jf_list (by rfl) T.z_list (jb (j_ix (jb_v 4) (jb j_int) (fun _ _ => rfl))))) (ja_cons (j_op d_mul (jb (j_tup (ja_cons (j_tup (ja_cons j_int (ja_cons (j_v 5) ja_nil))) ja_nil))) (jb_v 5)) (ja_cons (j_op d_mul (jb (j_tup (ja_cons (j_tup (ja_cons j_int (ja_cons j_int ja_nil))) ja_nil))) (jb_v 5)) (ja_cons (j_op d_mul (jb (j_tup (ja_cons (j_tup (ja_cons j_int (ja_cons j_int ja_nil))) ja_nil))) (jb j_int)) (ja_cons (j_op d_add (jb (j_tup (ja_cons (j_tup (ja_cons j_int (ja_cons j_int ja_nil))) (ja_cons (j_tup (ja_cons (j_un d_neg (jb j_int)) (ja_cons j_int ja_nil))) ja_nil)))) (jb (j_op d_mul (jb (j_tup (ja_cons (j_tup (ja_cons j_int (ja_cons j_int ja_nil))) ja_nil))) (jb (j_op d_sub (jb_v 5) (jb j_int)))))) (ja_cons (j_op d_mul (jb (j_tup (ja_cons j_int ja_nil))) (jb_v 5)) ja_nil)))))))))))))
    (jss_cons (js_for po rfl (ji_rng1 (by rfl) T.z_range (jb j_int)) (jg_n (i := 10) sc_law.nd rfl (Or.inl rfl)) (jss_one (js_app 9 (j_call (ok_law_shares T) (hr.mono (by decide)) (by rfl) T.g_law_shares T.F_law_shares.kp T.b_law_shares hp (ja_draw 1 (ja_cons (j_v 5) ja_nil))))))
    (jss_cons (js_app 9 (j_call (ok_law_shares T) (hr.mono (by decide)) (by rfl) T.g_law_shares T.F_law_shares.kp T.b_law_shares hp (ja_draw 1 (ja_cons (j_op d_add (jb (j_op d_mod (jb (j_ty b_int (by rfl) T.z_int (by decide +kernel) (jb_v 5))) (jb j_int))) (jb j_int)) ja_nil))))
    (jss_one (js_frz 9 (js_for po rfl (ji_seq (j_v 9)) (jg_n (i := 11) sc_law.nd rfl (Or.inl rfl)) (jss_cons (js_set (i := 12) sc_law.nd rfl (Or.inl rfl) (j_call (ok_law_is_objection T) (hr.mono (by decide)) (by rfl) T.g_law_is_objection T.F_law_is_objection.kp T.b_law_is_objection hp (ja_cons (j_v 4) (ja_cons (j_v 11) ja_nil))))
    (jss_one (js_if (jw (jw_or (jc_not (jc_e (j_call (ok_law_says T) (hr.mono (by decide)) (by rfl) T.g_law_says T.F_law_says.kp T.b_law_says hp (ja_cons (j_call (ok_takes_mixing_objection T) (hr.mono (by decide)) (by rfl) T.g_takes_mixing_objection T.F_takes_mixing_objection.kp T.b_takes_mixing_objection hp (ja_cons (j_v 4) (ja_cons (j_v 11) ja_nil))) (ja_cons (j_v 12) ja_nil))))) (jw_or1 (jw (jw_and (jc_e (j_v 7)) (jw_and1 (jc_e (j_v 12)))))))) (jss_one (js_ret j_bl)) jss_nil))))))))))))))))))
    (jss_cons (js_set (i := 13) sc_law.nd rfl (Or.inr rfl) (j_call (ok_law_odd_moves T) (hr.mono (by decide)) (by rfl) T.g_law_odd_moves T.F_law_odd_moves.kp T.b_law_odd_moves hp (ja_draw 1 (ja_cons (j_v 4) ja_nil))))
    (jss_one (js_ret (j_cmp (d_eq hu) (jb (j_f (jf_lc rfl sc_law.nd (ji_b (ji_rng1 (by rfl) T.z_range (jb j_int))) (blkOk_by (own := [("which", 16)]) (N := n_law) (sc := defScope s_law) (by decide +kernel)) rfl (by decide) (fun _ _ _ _ _ => (jg_n (i := 16) sc_law.nd rfl (by first | exact Or.inl rfl | exact Or.inr rfl))) (fun _ _ _ _ _ => jts_nil) (fun _ _ _ _ _ => (j_call (ok_law_told T) (hr.mono (by decide)) (by rfl) T.g_law_told T.F_law_told.kp T.b_law_told passL (ja_cons (j_v 16) (ja_cons (j_v 13) ja_nil))))))) (jb (j_op d_mul (jb (j_f (jf_lst (ja_cons j_str ja_nil)))) (jb j_int))) (nomark _)))))))) hT
theorem run_mk {h : Heap} {fa : Addr} (hT : lawOk 17 T_law) (X : K.In h) (G : h.Ns mainGlobals mg) (hfa : mg "law" = some (.ref fa))
    {f0 : Addr} {od0 an0 : Option Addr} {sl0 : Array (Option Value)} {oc0 kV0 dc0 pm0 cd0 ct0 : Value}
    {f1 : Addr} {od1 an1 : Option Addr} {sl1 : Array (Option Value)} {oc1 kV1 dc1 pm1 cd1 ct1 : Value}
    {f2 : Addr} {od2 an2 : Option Addr} {sl2 : Array (Option Value)} {oc2 kV2 dc2 pm2 cd2 ct2 : Value}
    {f3 : Addr} {od3 an3 : Option Addr} {sl3 : Array (Option Value)} {oc3 kV3 dc3 pm3 cd3 ct3 : Value}
    {f4 : Addr} {od4 an4 : Option Addr} {sl4 : Array (Option Value)} {oc4 kV4 dc4 pm4 cd4 ct4 : Value}
    {f5 : Addr} {od5 an5 : Option Addr} {sl5 : Array (Option Value)} {oc5 kV5 dc5 pm5 cd5 ct5 : Value}
    {f6 : Addr} {od6 an6 : Option Addr} {sl6 : Array (Option Value)} {oc6 kV6 dc6 pm6 cd6 ct6 : Value}
    {f7 : Addr} {od7 an7 : Option Addr} {sl7 : Array (Option Value)} {oc7 kV7 dc7 pm7 cd7 ct7 : Value}
    {f8 : Addr} {od8 an8 : Option Addr} {sl8 : Array (Option Value)} {oc8 kV8 dc8 pm8 cd8 ct8 : Value}
    {f9 : Addr} {od9 an9 : Option Addr} {sl9 : Array (Option Value)} {oc9 kV9 dc9 pm9 cd9 ct9 : Value}
    {f10 : Addr} {od10 an10 : Option Addr} {sl10 : Array (Option Value)} {oc10 kV10 dc10 pm10 cd10 ct10 : Value}
    {f11 : Addr} {od11 an11 : Option Addr} {sl11 : Array (Option Value)} {oc11 kV11 dc11 pm11 cd11 ct11 : Value}
    {f12 : Addr} {od12 an12 : Option Addr} {sl12 : Array (Option Value)} {oc12 kV12 dc12 pm12 cd12 ct12 : Value}
    {f13 : Addr} {od13 an13 : Option Addr} {sl13 : Array (Option Value)} {oc13 kV13 dc13 pm13 cd13 ct13 : Value}
    {f14 : Addr} {od14 an14 : Option Addr} {sl14 : Array (Option Value)} {oc14 kV14 dc14 pm14 cd14 ct14 : Value}
    {f15 : Addr} {od15 an15 : Option Addr} {sl15 : Array (Option Value)} {oc15 kV15 dc15 pm15 cd15 ct15 : Value}
    {f16 : Addr} {od16 an16 : Option Addr} {sl16 : Array (Option Value)} {oc16 kV16 dc16 pm16 cd16 ct16 : Value}
    {f17 : Addr} {od17 an17 : Option Addr} {sl17 : Array (Option Value)} {oc17 kV17 dc17 pm17 cd17 ct17 : Value}
    {f18 : Addr} {od18 an18 : Option Addr} {sl18 : Array (Option Value)} {oc18 kV18 dc18 pm18 cd18 ct18 : Value}
    {f19 : Addr} {od19 an19 : Option Addr} {sl19 : Array (Option Value)} {oc19 kV19 dc19 pm19 cd19 ct19 : Value}
    {f20 : Addr} {od20 an20 : Option Addr} {sl20 : Array (Option Value)} {oc20 kV20 dc20 pm20 cd20 ct20 : Value}
    {f21 : Addr} {od21 an21 : Option Addr} {sl21 : Array (Option Value)} {oc21 kV21 dc21 pm21 cd21 ct21 : Value}
    {f22 : Addr} {od22 an22 : Option Addr} {sl22 : Array (Option Value)} {oc22 kV22 dc22 pm22 cd22 ct22 : Value}
    {f23 : Addr} {od23 an23 : Option Addr} {sl23 : Array (Option Value)} {oc23 kV23 dc23 pm23 cd23 ct23 : Value}
    {f24 : Addr} {od24 an24 : Option Addr} {sl24 : Array (Option Value)} {oc24 kV24 dc24 pm24 cd24 ct24 : Value}
    {f25 : Addr} {od25 an25 : Option Addr} {sl25 : Array (Option Value)} {oc25 kV25 dc25 pm25 cd25 ct25 : Value}
    {f26 : Addr} {od26 an26 : Option Addr} {sl26 : Array (Option Value)} {oc26 kV26 dc26 pm26 cd26 ct26 : Value}
    {f27 : Addr} {od27 an27 : Option Addr} {sl27 : Array (Option Value)} {oc27 kV27 dc27 pm27 cd27 ct27 : Value}
    {f28 : Addr} {od28 an28 : Option Addr} {sl28 : Array (Option Value)} {oc28 kV28 dc28 pm28 cd28 ct28 : Value}
    {f29 : Addr} {od29 an29 : Option Addr} {sl29 : Array (Option Value)} {oc29 kV29 dc29 pm29 cd29 ct29 : Value}
    {f30 : Addr} {od30 an30 : Option Addr} {sl30 : Array (Option Value)} {oc30 kV30 dc30 pm30 cd30 ct30 : Value}
    {f31 : Addr} {od31 an31 : Option Addr} {sl31 : Array (Option Value)} {oc31 kV31 dc31 pm31 cd31 ct31 : Value}
    {f32 : Addr} {od32 an32 : Option Addr} {sl32 : Array (Option Value)} {oc32 kV32 dc32 pm32 cd32 ct32 : Value}
    {f33 : Addr} {od33 an33 : Option Addr} {sl33 : Array (Option Value)} {oc33 kV33 dc33 pm33 cd33 ct33 : Value}
    {f34 : Addr} {od34 an34 : Option Addr} {sl34 : Array (Option Value)} {oc34 kV34 dc34 pm34 cd34 ct34 : Value}
    {f35 : Addr} {od35 an35 : Option Addr} {sl35 : Array (Option Value)} {oc35 kV35 dc35 pm35 cd35 ct35 : Value}
    {f36 : Addr} {od36 an36 : Option Addr} {sl36 : Array (Option Value)} {oc36 kV36 dc36 pm36 cd36 ct36 : Value}
    {z_ZERO : Addr} {od_ZERO : Option Addr} {n_ZERO : Nat} {sl_ZERO : Array (Option Value)} {t0_ZERO t1_ZERO : Tok}
    {z_ONE : Addr} {od_ONE : Option Addr} {n_ONE : Nat} {sl_ONE : Array (Option Value)} {t0_ONE t1_ONE : Tok}
    {t_FEWEST_CLASSES : Tok}
    {t_MOST_CLASSES : Tok}
    {t_MOST_LOWER : Tok}
    {cM : Addr}
    (a0 : PySem.W.nsIn K mainGlobals "_law_draw" = some (some (.ref f0)))
    (l0 : K.lookup f0 = some ⟨oc0, od0, .func (PySem.W.fnOf "_law_draw" "_law_draw" (defArgs s_law_draw) (defBody s_law_draw) (defScope s_law_draw) .none kV0 dc0 pm0 an0 cd0 ct0), sl0⟩)
    (c0 : PySem.W.codeIn K cd0 "_law_draw" = true)
    (k0 : PySem.W.keepIn K (.ref f0) = true)
    (a1 : PySem.W.nsIn K mainGlobals "_law_take" = some (some (.ref f1)))
    (l1 : K.lookup f1 = some ⟨oc1, od1, .func (PySem.W.fnOf "_law_take" "_law_take" (defArgs s_law_take) (defBody s_law_take) (defScope s_law_take) .none kV1 dc1 pm1 an1 cd1 ct1), sl1⟩)
    (c1 : PySem.W.codeIn K cd1 "_law_take" = true)
    (k1 : PySem.W.keepIn K (.ref f1) = true)
    (a2 : PySem.W.nsIn K mainGlobals "_law_gcd" = some (some (.ref f2)))
    (l2 : K.lookup f2 = some ⟨oc2, od2, .func (PySem.W.fnOf "_law_gcd" "_law_gcd" (defArgs s_law_gcd) (defBody s_law_gcd) (defScope s_law_gcd) .none kV2 dc2 pm2 an2 cd2 ct2), sl2⟩)
    (c2 : PySem.W.codeIn K cd2 "_law_gcd" = true)
    (k2 : PySem.W.keepIn K (.ref f2) = true)
    (a3 : PySem.W.nsIn K mainGlobals "_law_ratio" = some (some (.ref f3)))
    (l3 : K.lookup f3 = some ⟨oc3, od3, .func (PySem.W.fnOf "_law_ratio" "_law_ratio" (defArgs s_law_ratio) (defBody s_law_ratio) (defScope s_law_ratio) .none kV3 dc3 pm3 an3 cd3 ct3), sl3⟩)
    (c3 : PySem.W.codeIn K cd3 "_law_ratio" = true)
    (k3 : PySem.W.keepIn K (.ref f3) = true)
    (a4 : PySem.W.nsIn K mainGlobals "_law_shares" = some (some (.ref f4)))
    (l4 : K.lookup f4 = some ⟨oc4, od4, .func (PySem.W.fnOf "_law_shares" "_law_shares" (defArgs s_law_shares) (defBody s_law_shares) (defScope s_law_shares) .none kV4 dc4 pm4 an4 cd4 ct4), sl4⟩)
    (c4 : PySem.W.codeIn K cd4 "_law_shares" = true)
    (k4 : PySem.W.keepIn K (.ref f4) = true)
    (a5 : PySem.W.nsIn K mainGlobals "_law_plus" = some (some (.ref f5)))
    (l5 : K.lookup f5 = some ⟨oc5, od5, .func (PySem.W.fnOf "_law_plus" "_law_plus" (defArgs s_law_plus) (defBody s_law_plus) (defScope s_law_plus) .none kV5 dc5 pm5 an5 cd5 ct5), sl5⟩)
    (c5 : PySem.W.codeIn K cd5 "_law_plus" = true)
    (k5 : PySem.W.keepIn K (.ref f5) = true)
    (a6 : PySem.W.nsIn K mainGlobals "_law_ranked" = some (some (.ref f6)))
    (l6 : K.lookup f6 = some ⟨oc6, od6, .func (PySem.W.fnOf "_law_ranked" "_law_ranked" (defArgs s_law_ranked) (defBody s_law_ranked) (defScope s_law_ranked) .none kV6 dc6 pm6 an6 cd6 ct6), sl6⟩)
    (c6 : PySem.W.codeIn K cd6 "_law_ranked" = true)
    (k6 : PySem.W.keepIn K (.ref f6) = true)
    (a7 : PySem.W.nsIn K mainGlobals "_law_moves" = some (some (.ref f7)))
    (l7 : K.lookup f7 = some ⟨oc7, od7, .func (PySem.W.fnOf "_law_moves" "_law_moves" (defArgs s_law_moves) (defBody s_law_moves) (defScope s_law_moves) .none kV7 dc7 pm7 an7 cd7 ct7), sl7⟩)
    (c7 : PySem.W.codeIn K cd7 "_law_moves" = true)
    (k7 : PySem.W.keepIn K (.ref f7) = true)
    (a8 : PySem.W.nsIn K mainGlobals "_law_mixed" = some (some (.ref f8)))
    (l8 : K.lookup f8 = some ⟨oc8, od8, .func (PySem.W.fnOf "_law_mixed" "_law_mixed" (defArgs s_law_mixed) (defBody s_law_mixed) (defScope s_law_mixed) .none kV8 dc8 pm8 an8 cd8 ct8), sl8⟩)
    (c8 : PySem.W.codeIn K cd8 "_law_mixed" = true)
    (k8 : PySem.W.keepIn K (.ref f8) = true)
    (a9 : PySem.W.nsIn K mainGlobals "is_whole" = some (some (.ref f9)))
    (l9 : K.lookup f9 = some ⟨oc9, od9, .func (PySem.W.fnOf "is_whole" "is_whole" (defArgs s_is_whole) (defBody s_is_whole) (defScope s_is_whole) .none kV9 dc9 pm9 an9 cd9 ct9), sl9⟩)
    (c9 : PySem.W.codeIn K cd9 "is_whole" = true)
    (k9 : PySem.W.keepIn K (.ref f9) = true)
    (a10 : PySem.W.nsIn K mainGlobals "common" = some (some (.ref f10)))
    (l10 : K.lookup f10 = some ⟨oc10, od10, .func (PySem.W.fnOf "common" "common" (defArgs s_common) (defBody s_common) (defScope s_common) .none kV10 dc10 pm10 an10 cd10 ct10), sl10⟩)
    (c10 : PySem.W.codeIn K cd10 "common" = true)
    (k10 : PySem.W.keepIn K (.ref f10) = true)
    (a11 : PySem.W.nsIn K mainGlobals "is_ratio" = some (some (.ref f11)))
    (l11 : K.lookup f11 = some ⟨oc11, od11, .func (PySem.W.fnOf "is_ratio" "is_ratio" (defArgs s_is_ratio) (defBody s_is_ratio) (defScope s_is_ratio) .none kV11 dc11 pm11 an11 cd11 ct11), sl11⟩)
    (c11 : PySem.W.codeIn K cd11 "is_ratio" = true)
    (k11 : PySem.W.keepIn K (.ref f11) = true)
    (a12 : PySem.W.nsIn K mainGlobals "lowest" = some (some (.ref f12)))
    (l12 : K.lookup f12 = some ⟨oc12, od12, .func (PySem.W.fnOf "lowest" "lowest" (defArgs s_lowest) (defBody s_lowest) (defScope s_lowest) .none kV12 dc12 pm12 an12 cd12 ct12), sl12⟩)
    (c12 : PySem.W.codeIn K cd12 "lowest" = true)
    (k12 : PySem.W.keepIn K (.ref f12) = true)
    (a13 : PySem.W.nsIn K mainGlobals "plus" = some (some (.ref f13)))
    (l13 : K.lookup f13 = some ⟨oc13, od13, .func (PySem.W.fnOf "plus" "plus" (defArgs s_plus) (defBody s_plus) (defScope s_plus) .none kV13 dc13 pm13 an13 cd13 ct13), sl13⟩)
    (c13 : PySem.W.codeIn K cd13 "plus" = true)
    (k13 : PySem.W.keepIn K (.ref f13) = true)
    (a14 : PySem.W.nsIn K mainGlobals "total" = some (some (.ref f14)))
    (l14 : K.lookup f14 = some ⟨oc14, od14, .func (PySem.W.fnOf "total" "total" (defArgs s_total) (defBody s_total) (defScope s_total) .none kV14 dc14 pm14 an14 cd14 ct14), sl14⟩)
    (c14 : PySem.W.codeIn K cd14 "total" = true)
    (k14 : PySem.W.keepIn K (.ref f14) = true)
    (a15 : PySem.W.nsIn K mainGlobals "fits_shares" = some (some (.ref f15)))
    (l15 : K.lookup f15 = some ⟨oc15, od15, .func (PySem.W.fnOf "fits_shares" "fits_shares" (defArgs s_fits_shares) (defBody s_fits_shares) (defScope s_fits_shares) .none kV15 dc15 pm15 an15 cd15 ct15), sl15⟩)
    (c15 : PySem.W.codeIn K cd15 "fits_shares" = true)
    (k15 : PySem.W.keepIn K (.ref f15) = true)
    (a16 : PySem.W.nsIn K mainGlobals "is_moves" = some (some (.ref f16)))
    (l16 : K.lookup f16 = some ⟨oc16, od16, .func (PySem.W.fnOf "is_moves" "is_moves" (defArgs s_is_moves) (defBody s_is_moves) (defScope s_is_moves) .none kV16 dc16 pm16 an16 cd16 ct16), sl16⟩)
    (c16 : PySem.W.codeIn K cd16 "is_moves" = true)
    (k16 : PySem.W.keepIn K (.ref f16) = true)
    (a17 : PySem.W.nsIn K mainGlobals "_law_sum" = some (some (.ref f17)))
    (l17 : K.lookup f17 = some ⟨oc17, od17, .func (PySem.W.fnOf "_law_sum" "_law_sum" (defArgs s_law_sum) (defBody s_law_sum) (defScope s_law_sum) .none kV17 dc17 pm17 an17 cd17 ct17), sl17⟩)
    (c17 : PySem.W.codeIn K cd17 "_law_sum" = true)
    (k17 : PySem.W.keepIn K (.ref f17) = true)
    (a18 : PySem.W.nsIn K mainGlobals "check_moves" = some (some (.ref f18)))
    (l18 : K.lookup f18 = some ⟨oc18, od18, .func (PySem.W.fnOf "check_moves" "check_moves" (defArgs s_check_moves) (defBody s_check_moves) (defScope s_check_moves) .none kV18 dc18 pm18 an18 cd18 ct18), sl18⟩)
    (c18 : PySem.W.codeIn K cd18 "check_moves" = true)
    (k18 : PySem.W.keepIn K (.ref f18) = true)
    (a19 : PySem.W.nsIn K mainGlobals "mixing_objection" = some (some (.ref f19)))
    (l19 : K.lookup f19 = some ⟨oc19, od19, .func (PySem.W.fnOf "mixing_objection" "mixing_objection" (defArgs s_mixing_objection) (defBody s_mixing_objection) (defScope s_mixing_objection) .none kV19 dc19 pm19 an19 cd19 ct19), sl19⟩)
    (c19 : PySem.W.codeIn K cd19 "mixing_objection" = true)
    (k19 : PySem.W.keepIn K (.ref f19) = true)
    (a20 : PySem.W.nsIn K mainGlobals "_law_is_fraction" = some (some (.ref f20)))
    (l20 : K.lookup f20 = some ⟨oc20, od20, .func (PySem.W.fnOf "_law_is_fraction" "_law_is_fraction" (defArgs s_law_is_fraction) (defBody s_law_is_fraction) (defScope s_law_is_fraction) .none kV20 dc20 pm20 an20 cd20 ct20), sl20⟩)
    (c20 : PySem.W.codeIn K cd20 "_law_is_fraction" = true)
    (k20 : PySem.W.keepIn K (.ref f20) = true)
    (a21 : PySem.W.nsIn K mainGlobals "_law_less" = some (some (.ref f21)))
    (l21 : K.lookup f21 = some ⟨oc21, od21, .func (PySem.W.fnOf "_law_less" "_law_less" (defArgs s_law_less) (defBody s_law_less) (defScope s_law_less) .none kV21 dc21 pm21 an21 cd21 ct21), sl21⟩)
    (c21 : PySem.W.codeIn K cd21 "_law_less" = true)
    (k21 : PySem.W.keepIn K (.ref f21) = true)
    (a22 : PySem.W.nsIn K mainGlobals "_law_in_size" = some (some (.ref f22)))
    (l22 : K.lookup f22 = some ⟨oc22, od22, .func (PySem.W.fnOf "_law_in_size" "_law_in_size" (defArgs s_law_in_size) (defBody s_law_in_size) (defScope s_law_in_size) .none kV22 dc22 pm22 an22 cd22 ct22), sl22⟩)
    (c22 : PySem.W.codeIn K cd22 "_law_in_size" = true)
    (k22 : PySem.W.keepIn K (.ref f22) = true)
    (a23 : PySem.W.nsIn K mainGlobals "_law_as_even" = some (some (.ref f23)))
    (l23 : K.lookup f23 = some ⟨oc23, od23, .func (PySem.W.fnOf "_law_as_even" "_law_as_even" (defArgs s_law_as_even) (defBody s_law_as_even) (defScope s_law_as_even) .none kV23 dc23 pm23 an23 cd23 ct23), sl23⟩)
    (c23 : PySem.W.codeIn K cd23 "_law_as_even" = true)
    (k23 : PySem.W.keepIn K (.ref f23) = true)
    (a24 : PySem.W.nsIn K mainGlobals "_law_times" = some (some (.ref f24)))
    (l24 : K.lookup f24 = some ⟨oc24, od24, .func (PySem.W.fnOf "_law_times" "_law_times" (defArgs s_law_times) (defBody s_law_times) (defScope s_law_times) .none kV24 dc24 pm24 an24 cd24 ct24), sl24⟩)
    (c24 : PySem.W.codeIn K cd24 "_law_times" = true)
    (k24 : PySem.W.keepIn K (.ref f24) = true)
    (a25 : PySem.W.nsIn K mainGlobals "_law_after" = some (some (.ref f25)))
    (l25 : K.lookup f25 = some ⟨oc25, od25, .func (PySem.W.fnOf "_law_after" "_law_after" (defArgs s_law_after) (defBody s_law_after) (defScope s_law_after) .none kV25 dc25 pm25 an25 cd25 ct25), sl25⟩)
    (c25 : PySem.W.codeIn K cd25 "_law_after" = true)
    (k25 : PySem.W.keepIn K (.ref f25) = true)
    (a26 : PySem.W.nsIn K mainGlobals "_law_is_objection" = some (some (.ref f26)))
    (l26 : K.lookup f26 = some ⟨oc26, od26, .func (PySem.W.fnOf "_law_is_objection" "_law_is_objection" (defArgs s_law_is_objection) (defBody s_law_is_objection) (defScope s_law_is_objection) .none kV26 dc26 pm26 an26 cd26 ct26), sl26⟩)
    (c26 : PySem.W.codeIn K cd26 "_law_is_objection" = true)
    (k26 : PySem.W.keepIn K (.ref f26) = true)
    (a27 : PySem.W.nsIn K mainGlobals "_law_says" = some (some (.ref f27)))
    (l27 : K.lookup f27 = some ⟨oc27, od27, .func (PySem.W.fnOf "_law_says" "_law_says" (defArgs s_law_says) (defBody s_law_says) (defScope s_law_says) .none kV27 dc27 pm27 an27 cd27 ct27), sl27⟩)
    (c27 : PySem.W.codeIn K cd27 "_law_says" = true)
    (k27 : PySem.W.keepIn K (.ref f27) = true)
    (a28 : PySem.W.nsIn K mainGlobals "below" = some (some (.ref f28)))
    (l28 : K.lookup f28 = some ⟨oc28, od28, .func (PySem.W.fnOf "below" "below" (defArgs s_below) (defBody s_below) (defScope s_below) .none kV28 dc28 pm28 an28 cd28 ct28), sl28⟩)
    (c28 : PySem.W.codeIn K cd28 "below" = true)
    (k28 : PySem.W.keepIn K (.ref f28) = true)
    (a29 : PySem.W.nsIn K mainGlobals "in_size" = some (some (.ref f29)))
    (l29 : K.lookup f29 = some ⟨oc29, od29, .func (PySem.W.fnOf "in_size" "in_size" (defArgs s_in_size) (defBody s_in_size) (defScope s_in_size) .none kV29 dc29 pm29 an29 cd29 ct29), sl29⟩)
    (c29 : PySem.W.codeIn K cd29 "in_size" = true)
    (k29 : PySem.W.keepIn K (.ref f29) = true)
    (a30 : PySem.W.nsIn K mainGlobals "is_as_even" = some (some (.ref f30)))
    (l30 : K.lookup f30 = some ⟨oc30, od30, .func (PySem.W.fnOf "is_as_even" "is_as_even" (defArgs s_is_as_even) (defBody s_is_as_even) (defScope s_is_as_even) .none kV30 dc30 pm30 an30 cd30 ct30), sl30⟩)
    (c30 : PySem.W.codeIn K cd30 "is_as_even" = true)
    (k30 : PySem.W.keepIn K (.ref f30) = true)
    (a31 : PySem.W.nsIn K mainGlobals "times" = some (some (.ref f31)))
    (l31 : K.lookup f31 = some ⟨oc31, od31, .func (PySem.W.fnOf "times" "times" (defArgs s_times) (defBody s_times) (defScope s_times) .none kV31 dc31 pm31 an31 cd31 ct31), sl31⟩)
    (c31 : PySem.W.codeIn K cd31 "times" = true)
    (k31 : PySem.W.keepIn K (.ref f31) = true)
    (a32 : PySem.W.nsIn K mainGlobals "stepped" = some (some (.ref f32)))
    (l32 : K.lookup f32 = some ⟨oc32, od32, .func (PySem.W.fnOf "stepped" "stepped" (defArgs s_stepped) (defBody s_stepped) (defScope s_stepped) .none kV32 dc32 pm32 an32 cd32 ct32), sl32⟩)
    (c32 : PySem.W.codeIn K cd32 "stepped" = true)
    (k32 : PySem.W.keepIn K (.ref f32) = true)
    (a33 : PySem.W.nsIn K mainGlobals "takes_mixing_objection" = some (some (.ref f33)))
    (l33 : K.lookup f33 = some ⟨oc33, od33, .func (PySem.W.fnOf "takes_mixing_objection" "takes_mixing_objection" (defArgs s_takes_mixing_objection) (defBody s_takes_mixing_objection) (defScope s_takes_mixing_objection) .none kV33 dc33 pm33 an33 cd33 ct33), sl33⟩)
    (c33 : PySem.W.codeIn K cd33 "takes_mixing_objection" = true)
    (k33 : PySem.W.keepIn K (.ref f33) = true)
    (a34 : PySem.W.nsIn K mainGlobals "_law_odd_moves" = some (some (.ref f34)))
    (l34 : K.lookup f34 = some ⟨oc34, od34, .func (PySem.W.fnOf "_law_odd_moves" "_law_odd_moves" (defArgs s_law_odd_moves) (defBody s_law_odd_moves) (defScope s_law_odd_moves) .none kV34 dc34 pm34 an34 cd34 ct34), sl34⟩)
    (c34 : PySem.W.codeIn K cd34 "_law_odd_moves" = true)
    (k34 : PySem.W.keepIn K (.ref f34) = true)
    (a35 : PySem.W.nsIn K mainGlobals "_law_told" = some (some (.ref f35)))
    (l35 : K.lookup f35 = some ⟨oc35, od35, .func (PySem.W.fnOf "_law_told" "_law_told" (defArgs s_law_told) (defBody s_law_told) (defScope s_law_told) .none kV35 dc35 pm35 an35 cd35 ct35), sl35⟩)
    (c35 : PySem.W.codeIn K cd35 "_law_told" = true)
    (k35 : PySem.W.keepIn K (.ref f35) = true)
    (a36 : PySem.W.nsIn K mainGlobals "law" = some (some (.ref f36)))
    (l36 : K.lookup f36 = some ⟨oc36, od36, .func (PySem.W.fnOf "law" "law" (defArgs s_law) (defBody s_law) (defScope s_law) .none kV36 dc36 pm36 an36 cd36 ct36), sl36⟩)
    (c36 : PySem.W.codeIn K cd36 "law" = true)
    (k36 : PySem.W.keepIn K (.ref f36) = true)
    (z_abs : PySem.W.nsIn K mainGlobals "abs" = some none)
    (z_all : PySem.W.nsIn K mainGlobals "all" = some none)
    (z_any : PySem.W.nsIn K mainGlobals "any" = some none)
    (z_bool : PySem.W.nsIn K mainGlobals "bool" = some none)
    (z_int : PySem.W.nsIn K mainGlobals "int" = some none)
    (z_isinstance : PySem.W.nsIn K mainGlobals "isinstance" = some none)
    (z_len : PySem.W.nsIn K mainGlobals "len" = some none)
    (z_list : PySem.W.nsIn K mainGlobals "list" = some none)
    (z_max : PySem.W.nsIn K mainGlobals "max" = some none)
    (z_min : PySem.W.nsIn K mainGlobals "min" = some none)
    (z_range : PySem.W.nsIn K mainGlobals "range" = some none)
    (z_sum : PySem.W.nsIn K mainGlobals "sum" = some none)
    (z_tuple : PySem.W.nsIn K mainGlobals "tuple" = some none)
    (q_ZERO : PySem.W.nsIn K mainGlobals "ZERO" = some (some (.ref z_ZERO)))
    (r_ZERO : K.lookup z_ZERO = some ⟨.type "tuple", od_ZERO, .seq #[.int 0 t0_ZERO, .int 1 t1_ZERO] n_ZERO, sl_ZERO⟩)
    (q_ONE : PySem.W.nsIn K mainGlobals "ONE" = some (some (.ref z_ONE)))
    (r_ONE : K.lookup z_ONE = some ⟨.type "tuple", od_ONE, .seq #[.int 1 t0_ONE, .int 1 t1_ONE] n_ONE, sl_ONE⟩)
    (q_FEWEST_CLASSES : PySem.W.nsIn K mainGlobals "FEWEST_CLASSES" = some (some (.int 2 t_FEWEST_CLASSES)))
    (q_MOST_CLASSES : PySem.W.nsIn K mainGlobals "MOST_CLASSES" = some (some (.int 6 t_MOST_CLASSES)))
    (q_MOST_LOWER : PySem.W.nsIn K mainGlobals "MOST_LOWER" = some (some (.int 1000 t_MOST_LOWER)))
    (aM : PySem.W.nsIn K mainGlobals "Malformed" = some (some (.ref cM)))
    (xM : PySem.W.excIn K cM [.type "ValueError", .type "Exception", .type "BaseException", .type "object"] "ValueError.__new__" = true)
    (kM : PySem.W.keepIn K (.ref cM) = true)
    (bM : PySem.W.subIn K (.ref cM) (.type "BaseException") = some true)
    (tM : PySem.W.typeIn K (.ref cM) = some (.type "type"))
    (iM : PySem.W.isClsIn K cM = true)
    (sM : PySem.W.subIn K (.ref cM) (.ref cM) = some true) : LawRun P w K mg fa := by
  have e := hfa.symm.trans (PySem.W.mg_of X G a36)
  cases e
  exact ok_law {
    a_law_draw := f0
    d_law_draw := _
    F_law_draw := fun_mk (st := s_law_draw) l0 c0 k0
    b_law_draw := (fun_mk (st := s_law_draw) l0 c0 k0).binds (ps := ["script"]) fun _ _ _ _ _ _ us hl => match us, hl with | [_], _ => rfl
    g_law_draw := PySem.W.mg_of X G a0
    a_law_take := f1
    d_law_take := _
    F_law_take := fun_mk (st := s_law_take) l1 c1 k1
    b_law_take := (fun_mk (st := s_law_take) l1 c1 k1).binds (ps := ["draw", "many"]) fun _ _ _ _ _ _ us hl => match us, hl with | [_, _], _ => rfl
    g_law_take := PySem.W.mg_of X G a1
    a_law_gcd := f2
    d_law_gcd := _
    F_law_gcd := fun_mk (st := s_law_gcd) l2 c2 k2
    b_law_gcd := (fun_mk (st := s_law_gcd) l2 c2 k2).binds (ps := ["a", "b"]) fun _ _ _ _ _ _ us hl => match us, hl with | [_, _], _ => rfl
    g_law_gcd := PySem.W.mg_of X G a2
    a_law_ratio := f3
    d_law_ratio := _
    F_law_ratio := fun_mk (st := s_law_ratio) l3 c3 k3
    b_law_ratio := (fun_mk (st := s_law_ratio) l3 c3 k3).binds (ps := ["n", "d"]) fun _ _ _ _ _ _ us hl => match us, hl with | [_, _], _ => rfl
    g_law_ratio := PySem.W.mg_of X G a3
    a_law_shares := f4
    d_law_shares := _
    F_law_shares := fun_mk (st := s_law_shares) l4 c4 k4
    b_law_shares := (fun_mk (st := s_law_shares) l4 c4 k4).binds (ps := ["draw", "many"]) fun _ _ _ _ _ _ us hl => match us, hl with | [_, _], _ => rfl
    g_law_shares := PySem.W.mg_of X G a4
    a_law_plus := f5
    d_law_plus := _
    F_law_plus := fun_mk (st := s_law_plus) l5 c5 k5
    b_law_plus := (fun_mk (st := s_law_plus) l5 c5 k5).binds (ps := ["a", "b"]) fun _ _ _ _ _ _ us hl => match us, hl with | [_, _], _ => rfl
    g_law_plus := PySem.W.mg_of X G a5
    a_law_ranked := f6
    d_law_ranked := _
    F_law_ranked := fun_mk (st := s_law_ranked) l6 c6 k6
    b_law_ranked := (fun_mk (st := s_law_ranked) l6 c6 k6).binds (ps := ["draw", "many"]) fun _ _ _ _ _ _ us hl => match us, hl with | [_, _], _ => rfl
    g_law_ranked := PySem.W.mg_of X G a6
    a_law_moves := f7
    d_law_moves := _
    F_law_moves := fun_mk (st := s_law_moves) l7 c7 k7
    b_law_moves := (fun_mk (st := s_law_moves) l7 c7 k7).binds (ps := ["draw", "most"]) fun _ _ _ _ _ _ us hl => match us, hl with | [_, _], _ => rfl
    g_law_moves := PySem.W.mg_of X G a7
    a_law_mixed := f8
    d_law_mixed := _
    F_law_mixed := fun_mk (st := s_law_mixed) l8 c8 k8
    b_law_mixed := (fun_mk (st := s_law_mixed) l8 c8 k8).binds (ps := ["draw"]) fun _ _ _ _ _ _ us hl => match us, hl with | [_], _ => rfl
    g_law_mixed := PySem.W.mg_of X G a8
    a_is_whole := f9
    d_is_whole := _
    F_is_whole := fun_mk (st := s_is_whole) l9 c9 k9
    b_is_whole := (fun_mk (st := s_is_whole) l9 c9 k9).binds (ps := ["value"]) fun _ _ _ _ _ _ us hl => match us, hl with | [_], _ => rfl
    g_is_whole := PySem.W.mg_of X G a9
    a_common := f10
    d_common := _
    F_common := fun_mk (st := s_common) l10 c10 k10
    b_common := (fun_mk (st := s_common) l10 c10 k10).binds (ps := ["a", "b"]) fun _ _ _ _ _ _ us hl => match us, hl with | [_, _], _ => rfl
    g_common := PySem.W.mg_of X G a10
    a_is_ratio := f11
    d_is_ratio := _
    F_is_ratio := fun_mk (st := s_is_ratio) l11 c11 k11
    b_is_ratio := (fun_mk (st := s_is_ratio) l11 c11 k11).binds (ps := ["value"]) fun _ _ _ _ _ _ us hl => match us, hl with | [_], _ => rfl
    g_is_ratio := PySem.W.mg_of X G a11
    a_lowest := f12
    d_lowest := _
    F_lowest := fun_mk (st := s_lowest) l12 c12 k12
    b_lowest := (fun_mk (st := s_lowest) l12 c12 k12).binds (ps := ["n", "d"]) fun _ _ _ _ _ _ us hl => match us, hl with | [_, _], _ => rfl
    g_lowest := PySem.W.mg_of X G a12
    a_plus := f13
    d_plus := _
    F_plus := fun_mk (st := s_plus) l13 c13 k13
    b_plus := (fun_mk (st := s_plus) l13 c13 k13).binds (ps := ["a", "b"]) fun _ _ _ _ _ _ us hl => match us, hl with | [_, _], _ => rfl
    g_plus := PySem.W.mg_of X G a13
    a_total := f14
    d_total := _
    F_total := fun_mk (st := s_total) l14 c14 k14
    b_total := (fun_mk (st := s_total) l14 c14 k14).binds (ps := ["items"]) fun _ _ _ _ _ _ us hl => match us, hl with | [_], _ => rfl
    g_total := PySem.W.mg_of X G a14
    a_fits_shares := f15
    d_fits_shares := _
    F_fits_shares := fun_mk (st := s_fits_shares) l15 c15 k15
    b_fits_shares := (fun_mk (st := s_fits_shares) l15 c15 k15).binds (ps := ["value", "many"]) fun _ _ _ _ _ _ us hl => match us, hl with | [_, _], _ => rfl
    g_fits_shares := PySem.W.mg_of X G a15
    a_is_moves := f16
    d_is_moves := _
    F_is_moves := fun_mk (st := s_is_moves) l16 c16 k16
    b_is_moves := (fun_mk (st := s_is_moves) l16 c16 k16).binds (ps := ["value"]) fun _ _ _ _ _ _ us hl => match us, hl with | [_], _ => rfl
    g_is_moves := PySem.W.mg_of X G a16
    a_law_sum := f17
    d_law_sum := _
    F_law_sum := fun_mk (st := s_law_sum) l17 c17 k17
    b_law_sum := (fun_mk (st := s_law_sum) l17 c17 k17).binds (ps := ["items"]) fun _ _ _ _ _ _ us hl => match us, hl with | [_], _ => rfl
    g_law_sum := PySem.W.mg_of X G a17
    a_check_moves := f18
    d_check_moves := _
    F_check_moves := fun_mk (st := s_check_moves) l18 c18 k18
    b_check_moves := (fun_mk (st := s_check_moves) l18 c18 k18).binds (ps := ["value"]) fun _ _ _ _ _ _ us hl => match us, hl with | [_], _ => rfl
    g_check_moves := PySem.W.mg_of X G a18
    a_mixing_objection := f19
    d_mixing_objection := _
    F_mixing_objection := fun_mk (st := s_mixing_objection) l19 c19 k19
    b_mixing_objection := (fun_mk (st := s_mixing_objection) l19 c19 k19).binds (ps := ["moves"]) fun _ _ _ _ _ _ us hl => match us, hl with | [_], _ => rfl
    g_mixing_objection := PySem.W.mg_of X G a19
    a_law_is_fraction := f20
    d_law_is_fraction := _
    F_law_is_fraction := fun_mk (st := s_law_is_fraction) l20 c20 k20
    b_law_is_fraction := (fun_mk (st := s_law_is_fraction) l20 c20 k20).binds (ps := ["value"]) fun _ _ _ _ _ _ us hl => match us, hl with | [_], _ => rfl
    g_law_is_fraction := PySem.W.mg_of X G a20
    a_law_less := f21
    d_law_less := _
    F_law_less := fun_mk (st := s_law_less) l21 c21 k21
    b_law_less := (fun_mk (st := s_law_less) l21 c21 k21).binds (ps := ["a", "b"]) fun _ _ _ _ _ _ us hl => match us, hl with | [_, _], _ => rfl
    g_law_less := PySem.W.mg_of X G a21
    a_law_in_size := f22
    d_law_in_size := _
    F_law_in_size := fun_mk (st := s_law_in_size) l22 c22 k22
    b_law_in_size := (fun_mk (st := s_law_in_size) l22 c22 k22).binds (ps := ["row"]) fun _ _ _ _ _ _ us hl => match us, hl with | [_], _ => rfl
    g_law_in_size := PySem.W.mg_of X G a22
    a_law_as_even := f23
    d_law_as_even := _
    F_law_as_even := fun_mk (st := s_law_as_even) l23 c23 k23
    b_law_as_even := (fun_mk (st := s_law_as_even) l23 c23 k23).binds (ps := ["one", "two"]) fun _ _ _ _ _ _ us hl => match us, hl with | [_, _], _ => rfl
    g_law_as_even := PySem.W.mg_of X G a23
    a_law_times := f24
    d_law_times := _
    F_law_times := fun_mk (st := s_law_times) l24 c24 k24
    b_law_times := (fun_mk (st := s_law_times) l24 c24 k24).binds (ps := ["a", "b"]) fun _ _ _ _ _ _ us hl => match us, hl with | [_, _], _ => rfl
    g_law_times := PySem.W.mg_of X G a24
    a_law_after := f25
    d_law_after := _
    F_law_after := fun_mk (st := s_law_after) l25 c25 k25
    b_law_after := (fun_mk (st := s_law_after) l25 c25 k25).binds (ps := ["moves", "shares"]) fun _ _ _ _ _ _ us hl => match us, hl with | [_, _], _ => rfl
    g_law_after := PySem.W.mg_of X G a25
    a_law_is_objection := f26
    d_law_is_objection := _
    F_law_is_objection := fun_mk (st := s_law_is_objection) l26 c26 k26
    b_law_is_objection := (fun_mk (st := s_law_is_objection) l26 c26 k26).binds (ps := ["moves", "value"]) fun _ _ _ _ _ _ us hl => match us, hl with | [_, _], _ => rfl
    g_law_is_objection := PySem.W.mg_of X G a26
    a_law_says := f27
    d_law_says := _
    F_law_says := fun_mk (st := s_law_says) l27 c27 k27
    b_law_says := (fun_mk (st := s_law_says) l27 c27 k27).binds (ps := ["value", "due"]) fun _ _ _ _ _ _ us hl => match us, hl with | [_, _], _ => rfl
    g_law_says := PySem.W.mg_of X G a27
    a_below := f28
    d_below := _
    F_below := fun_mk (st := s_below) l28 c28 k28
    b_below := (fun_mk (st := s_below) l28 c28 k28).binds (ps := ["a", "b"]) fun _ _ _ _ _ _ us hl => match us, hl with | [_, _], _ => rfl
    g_below := PySem.W.mg_of X G a28
    a_in_size := f29
    d_in_size := _
    F_in_size := fun_mk (st := s_in_size) l29 c29 k29
    b_in_size := (fun_mk (st := s_in_size) l29 c29 k29).binds (ps := ["row"]) fun _ _ _ _ _ _ us hl => match us, hl with | [_], _ => rfl
    g_in_size := PySem.W.mg_of X G a29
    a_is_as_even := f30
    d_is_as_even := _
    F_is_as_even := fun_mk (st := s_is_as_even) l30 c30 k30
    b_is_as_even := (fun_mk (st := s_is_as_even) l30 c30 k30).binds (ps := ["one", "two"]) fun _ _ _ _ _ _ us hl => match us, hl with | [_, _], _ => rfl
    g_is_as_even := PySem.W.mg_of X G a30
    a_times := f31
    d_times := _
    F_times := fun_mk (st := s_times) l31 c31 k31
    b_times := (fun_mk (st := s_times) l31 c31 k31).binds (ps := ["a", "b"]) fun _ _ _ _ _ _ us hl => match us, hl with | [_, _], _ => rfl
    g_times := PySem.W.mg_of X G a31
    a_stepped := f32
    d_stepped := _
    F_stepped := fun_mk (st := s_stepped) l32 c32 k32
    b_stepped := (fun_mk (st := s_stepped) l32 c32 k32).binds (ps := ["moves", "shares"]) fun _ _ _ _ _ _ us hl => match us, hl with | [_, _], _ => rfl
    g_stepped := PySem.W.mg_of X G a32
    a_takes_mixing_objection := f33
    d_takes_mixing_objection := _
    F_takes_mixing_objection := fun_mk (st := s_takes_mixing_objection) l33 c33 k33
    b_takes_mixing_objection := (fun_mk (st := s_takes_mixing_objection) l33 c33 k33).binds (ps := ["moves", "value"]) fun _ _ _ _ _ _ us hl => match us, hl with | [_, _], _ => rfl
    g_takes_mixing_objection := PySem.W.mg_of X G a33
    a_law_odd_moves := f34
    d_law_odd_moves := _
    F_law_odd_moves := fun_mk (st := s_law_odd_moves) l34 c34 k34
    b_law_odd_moves := (fun_mk (st := s_law_odd_moves) l34 c34 k34).binds (ps := ["draw", "moves"]) fun _ _ _ _ _ _ us hl => match us, hl with | [_, _], _ => rfl
    g_law_odd_moves := PySem.W.mg_of X G a34
    a_law_told := f35
    d_law_told := _
    F_law_told := fun_mk (st := s_law_told) l35 c35 k35
    b_law_told := (fun_mk (st := s_law_told) l35 c35 k35).binds (ps := ["which", "moves"]) fun _ _ _ _ _ _ us hl => match us, hl with | [_, _], _ => rfl
    g_law_told := PySem.W.mg_of X G a35
    a_law := _
    d_law := _
    F_law := fun_mk (st := s_law) l36 c36 k36
    b_law := (fun_mk (st := s_law) l36 c36 k36).binds (ps := ["script"]) fun _ _ _ _ _ _ us hl => match us, hl with | [_], _ => rfl
    g_law := PySem.W.mg_of X G a36
    i_law := fun _ _ => .of_eq rfl
    z_abs := PySem.W.mg_none_of X G z_abs
    z_all := PySem.W.mg_none_of X G z_all
    z_any := PySem.W.mg_none_of X G z_any
    z_bool := PySem.W.mg_none_of X G z_bool
    z_int := PySem.W.mg_none_of X G z_int
    z_isinstance := PySem.W.mg_none_of X G z_isinstance
    z_len := PySem.W.mg_none_of X G z_len
    z_list := PySem.W.mg_none_of X G z_list
    z_max := PySem.W.mg_none_of X G z_max
    z_min := PySem.W.mg_none_of X G z_min
    z_range := PySem.W.mg_none_of X G z_range
    z_sum := PySem.W.mg_none_of X G z_sum
    z_tuple := PySem.W.mg_none_of X G z_tuple
    k_ZERO := globTup (PySem.W.mg_of X G q_ZERO) r_ZERO (show 2 ≤ 1000 by decide) (.cons vInt (.cons vInt .nil)) (fun _ => (.cons (.int _) (.cons (.int _) .nil)))
    k_ONE := globTup (PySem.W.mg_of X G q_ONE) r_ONE (show 2 ≤ 1000 by decide) (.cons vInt (.cons vInt .nil)) (fun _ => (.cons (.int _) (.cons (.int _) .nil)))
    k_FEWEST_CLASSES := globInt (PySem.W.mg_of X G q_FEWEST_CLASSES)
    k_MOST_CLASSES := globInt (PySem.W.mg_of X G q_MOST_CLASSES)
    k_MOST_LOWER := globInt (PySem.W.mg_of X G q_MOST_LOWER)
    cM := cM
    xM := xM
    gM := PySem.W.mg_of X G aM
    kM := kM
    bM := bM
    tM := tM
    eM := exm_self bM iM tM sM } hT
end
end PL

open PySem PySem.W PyProof.Rows
set_option maxRecDepth 100000 in
set_option maxHeartbeats 0 in
theorem PySem.Challenge.cw_levelpurses_k60_whole_moves_that_mix_holds : PySem.Challenge.rw_levelpurses_k60_whole_moves_that_mix.Holds := by
  w_on; o_law; k_head; (case hw => w_witness2)
  k_fill
  refine PL.walk_law (l := PySem.Challenge.rw_levelpurses_k60_whole_moves_that_mix) rfl rfl (fun w h Y => PySem.W.kIn_of Y) ?F
  case F =>
    intro w mg fa h KX G hmg
    refine' PL.run_mk PL.M.law_true KX G hmg ?a0 ?l0 ?c0 ?k0 ?a1 ?l1 ?c1 ?k1 ?a2 ?l2 ?c2 ?k2 ?a3 ?l3 ?c3 ?k3 ?a4 ?l4 ?c4 ?k4 ?a5 ?l5 ?c5 ?k5 ?a6 ?l6 ?c6 ?k6 ?a7 ?l7 ?c7 ?k7 ?a8 ?l8 ?c8 ?k8 ?a9 ?l9 ?c9 ?k9 ?a10 ?l10 ?c10 ?k10 ?a11 ?l11 ?c11 ?k11 ?a12 ?l12 ?c12 ?k12 ?a13 ?l13 ?c13 ?k13 ?a14 ?l14 ?c14 ?k14 ?a15 ?l15 ?c15 ?k15 ?a16 ?l16 ?c16 ?k16 ?a17 ?l17 ?c17 ?k17 ?a18 ?l18 ?c18 ?k18 ?a19 ?l19 ?c19 ?k19 ?a20 ?l20 ?c20 ?k20 ?a21 ?l21 ?c21 ?k21 ?a22 ?l22 ?c22 ?k22 ?a23 ?l23 ?c23 ?k23 ?a24 ?l24 ?c24 ?k24 ?a25 ?l25 ?c25 ?k25 ?a26 ?l26 ?c26 ?k26 ?a27 ?l27 ?c27 ?k27 ?a28 ?l28 ?c28 ?k28 ?a29 ?l29 ?c29 ?k29 ?a30 ?l30 ?c30 ?k30 ?a31 ?l31 ?c31 ?k31 ?a32 ?l32 ?c32 ?k32 ?a33 ?l33 ?c33 ?k33 ?a34 ?l34 ?c34 ?k34 ?a35 ?l35 ?c35 ?k35 ?a36 ?l36 ?c36 ?k36 ?z_abs ?z_all ?z_any ?z_bool ?z_int ?z_isinstance ?z_len ?z_list ?z_max ?z_min ?z_range ?z_sum ?z_tuple ?q_ZERO ?r_ZERO ?q_ONE ?r_ONE ?q_FEWEST_CLASSES ?q_MOST_CLASSES ?q_MOST_LOWER ?aM ?xM ?kM ?bM ?tM ?iM ?sM
    (case a0 => k_is)
    (case l0 => k_is)
    (case c0 => k_is)
    (case k0 => k_is)
    (case a1 => k_is)
    (case l1 => k_is)
    (case c1 => k_is)
    (case k1 => k_is)
    (case a2 => k_is)
    (case l2 => k_is)
    (case c2 => k_is)
    (case k2 => k_is)
    (case a3 => k_is)
    (case l3 => k_is)
    (case c3 => k_is)
    (case k3 => k_is)
    (case a4 => k_is)
    (case l4 => k_is)
    (case c4 => k_is)
    (case k4 => k_is)
    (case a5 => k_is)
    (case l5 => k_is)
    (case c5 => k_is)
    (case k5 => k_is)
    (case a6 => k_is)
    (case l6 => k_is)
    (case c6 => k_is)
    (case k6 => k_is)
    (case a7 => k_is)
    (case l7 => k_is)
    (case c7 => k_is)
    (case k7 => k_is)
    (case a8 => k_is)
    (case l8 => k_is)
    (case c8 => k_is)
    (case k8 => k_is)
    (case a9 => k_is)
    (case l9 => k_is)
    (case c9 => k_is)
    (case k9 => k_is)
    (case a10 => k_is)
    (case l10 => k_is)
    (case c10 => k_is)
    (case k10 => k_is)
    (case a11 => k_is)
    (case l11 => k_is)
    (case c11 => k_is)
    (case k11 => k_is)
    (case a12 => k_is)
    (case l12 => k_is)
    (case c12 => k_is)
    (case k12 => k_is)
    (case a13 => k_is)
    (case l13 => k_is)
    (case c13 => k_is)
    (case k13 => k_is)
    (case a14 => k_is)
    (case l14 => k_is)
    (case c14 => k_is)
    (case k14 => k_is)
    (case a15 => k_is)
    (case l15 => k_is)
    (case c15 => k_is)
    (case k15 => k_is)
    (case a16 => k_is)
    (case l16 => k_is)
    (case c16 => k_is)
    (case k16 => k_is)
    (case a17 => k_is)
    (case l17 => k_is)
    (case c17 => k_is)
    (case k17 => k_is)
    (case a18 => k_is)
    (case l18 => k_is)
    (case c18 => k_is)
    (case k18 => k_is)
    (case a19 => k_is)
    (case l19 => k_is)
    (case c19 => k_is)
    (case k19 => k_is)
    (case a20 => k_is)
    (case l20 => k_is)
    (case c20 => k_is)
    (case k20 => k_is)
    (case a21 => k_is)
    (case l21 => k_is)
    (case c21 => k_is)
    (case k21 => k_is)
    (case a22 => k_is)
    (case l22 => k_is)
    (case c22 => k_is)
    (case k22 => k_is)
    (case a23 => k_is)
    (case l23 => k_is)
    (case c23 => k_is)
    (case k23 => k_is)
    (case a24 => k_is)
    (case l24 => k_is)
    (case c24 => k_is)
    (case k24 => k_is)
    (case a25 => k_is)
    (case l25 => k_is)
    (case c25 => k_is)
    (case k25 => k_is)
    (case a26 => k_is)
    (case l26 => k_is)
    (case c26 => k_is)
    (case k26 => k_is)
    (case a27 => k_is)
    (case l27 => k_is)
    (case c27 => k_is)
    (case k27 => k_is)
    (case a28 => k_is)
    (case l28 => k_is)
    (case c28 => k_is)
    (case k28 => k_is)
    (case a29 => k_is)
    (case l29 => k_is)
    (case c29 => k_is)
    (case k29 => k_is)
    (case a30 => k_is)
    (case l30 => k_is)
    (case c30 => k_is)
    (case k30 => k_is)
    (case a31 => k_is)
    (case l31 => k_is)
    (case c31 => k_is)
    (case k31 => k_is)
    (case a32 => k_is)
    (case l32 => k_is)
    (case c32 => k_is)
    (case k32 => k_is)
    (case a33 => k_is)
    (case l33 => k_is)
    (case c33 => k_is)
    (case k33 => k_is)
    (case a34 => k_is)
    (case l34 => k_is)
    (case c34 => k_is)
    (case k34 => k_is)
    (case a35 => k_is)
    (case l35 => k_is)
    (case c35 => k_is)
    (case k35 => k_is)
    (case a36 => k_is)
    (case l36 => k_is)
    (case c36 => k_is)
    (case k36 => k_is)
    (case z_abs => k_is)
    (case z_all => k_is)
    (case z_any => k_is)
    (case z_bool => k_is)
    (case z_int => k_is)
    (case z_isinstance => k_is)
    (case z_len => k_is)
    (case z_list => k_is)
    (case z_max => k_is)
    (case z_min => k_is)
    (case z_range => k_is)
    (case z_sum => k_is)
    (case z_tuple => k_is)
    (case q_ZERO => k_is)
    (case r_ZERO => k_is)
    (case q_ONE => k_is)
    (case r_ONE => k_is)
    (case q_FEWEST_CLASSES => k_is)
    (case q_MOST_CLASSES => k_is)
    (case q_MOST_LOWER => first | k_is | rfl | kernel_rfl)
    (case aM => k_is)
    (case xM => k_exc)
    (case kM => k_is)
    (case bM => k_is)
    (case tM => k_is)
    (case iM => k_is)
    (case sM => first | rfl | k_is)
