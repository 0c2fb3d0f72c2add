import PyProof.Rows.All
import Wide.All
import OpenK.AllK
import Wide.FinOn
import KE.KStateDown
import Lean
import Open.SpecLaws
import KE.HD4
import KE.SortData
import HandS.ForMost
import HandS.ForSpec
import HandS.Wide
import HandS.Defaults
import HandS.HeadHook1
import HandS.HeadHook2
import HandS.HeadHook3
import HandS.ExcInit
import HandS.ExcInitHot
import HandS.ExcField
import HandS.SuiteRaise
import HandS.CallLocal
import HandS.CallSlots
import HandS.Codes
import HandS.Conv
import HandS.Deep
import HandS.DictTup
import HandS.TupLen
import HandS.Style
import HandS.Strs
import HandS.More
import HandS.WrittenGet
import KE.KDictCopyH
import HandS.Finally
import HandS.Walk
import HandS.SortInts
import PySem.Challenge.RW_queuelanguage_s01_answers
set_option Elab.async false
set_option maxHeartbeats 4000000
namespace Qu
abbrev Fr := Lrx1.Fraction
/-- in lowest terms -/
structure Red (q : Fr) : Prop where
  pos : 0 < q.den
  cop : Nat.gcd q.num.natAbs q.den = 1
def toR (q : Fr) (h : Red q) : Rat := ⟨q.num, q.den, Nat.ne_of_gt h.pos, h.cop⟩
theorem red_eq {a b : Fr} (ha : Red a) (hb : Red b) (e : a.num * (b.den : Int) = b.num * (a.den : Int)) : a = b := by
  have h : toR a ha = toR b hb := Rat.eq_iff_mul_eq_mul.mpr e
  have h1 : (toR a ha).num = (toR b hb).num := by rw [h]
  have h2 : (toR a ha).den = (toR b hb).den := by rw [h]
  cases a; cases b
  simp only [toR] at h1 h2
  rw [h1, h2]
theorem gcd_pos {n : Int} {d : Nat} (h : 0 < d) : 0 < Nat.gcd n.natAbs d := Nat.gcd_pos_of_pos_right _ h
theorem reduce_eq {n : Int} {d : Nat} (h : 0 < d) : Lrx1.reduce n d = ⟨n / ((Nat.gcd n.natAbs d : Nat) : Int), d / Nat.gcd n.natAbs d⟩ := by
  unfold Lrx1.reduce
  rw [if_neg (Nat.ne_of_gt h)]
theorem reduce_num {n : Int} {d : Nat} (h : 0 < d) : (Lrx1.reduce n d).num * ((Nat.gcd n.natAbs d : Nat) : Int) = n := by
  rw [reduce_eq h]
  exact Int.ediv_mul_cancel (Int.ofNat_dvd_left.mpr (Nat.gcd_dvd_left _ _))
theorem reduce_den {n : Int} {d : Nat} (h : 0 < d) : (Lrx1.reduce n d).den * Nat.gcd n.natAbs d = d := by
  rw [reduce_eq h]
  exact Nat.div_mul_cancel (Nat.gcd_dvd_right _ _)
theorem reduce_red {n : Int} {d : Nat} (h : 0 < d) : Red (Lrx1.reduce n d) := by
  have g := gcd_pos (n := n) h
  refine ⟨?_, ?_⟩
  · rw [reduce_eq h]
    exact Nat.div_pos (Nat.le_of_dvd h (Nat.gcd_dvd_right _ _)) g
  · rw [reduce_eq h]
    show Nat.gcd (n / ((Nat.gcd n.natAbs d : Nat) : Int)).natAbs (d / Nat.gcd n.natAbs d) = 1
    have e : (n / ((Nat.gcd n.natAbs d : Nat) : Int)).natAbs = n.natAbs / Nat.gcd n.natAbs d := by
      rw [Int.natAbs_ediv_of_dvd (Int.ofNat_dvd_left.mpr (Nat.gcd_dvd_left _ _))]
      rfl
    rw [e]
    exact Nat.gcd_div_gcd_div_gcd_of_pos_right h
theorem reduce_cross {n : Int} {d : Nat} (h : 0 < d) : (Lrx1.reduce n d).num * (d : Int) = n * ((Lrx1.reduce n d).den : Int) := by
  have a := reduce_num (n := n) h
  have b := reduce_den (n := n) h
  generalize Lrx1.reduce n d = r at a b ⊢
  generalize Nat.gcd n.natAbs d = g at a b ⊢
  subst b
  rw [← a]
  push_cast
  grind
theorem reduce_is {n : Int} {d : Nat} {q : Fr} (h : 0 < d) (hq : Red q) (e : q.num * (d : Int) = n * (q.den : Int)) : Lrx1.reduce n d = q := by
  have r := reduce_red (n := n) h
  have c := reduce_cross (n := n) h
  generalize Lrx1.reduce n d = r' at r c ⊢
  refine red_eq r hq ?_
  have hd : (d : Int) ≠ 0 := by omega
  apply Int.eq_of_mul_eq_mul_right hd
  grind
theorem reduce_self {q : Fr} (h : Red q) : Lrx1.reduce q.num q.den = q := reduce_is h.pos h rfl
theorem zero_red : Red Lrx1.zero := ⟨by decide, by decide⟩
theorem one_red : Red Lrx1.one := ⟨by decide, by decide⟩
theorem add_red {a b : Fr} (ha : 0 < a.den) (hb : 0 < b.den) : Red (Lrx1.add a b) := reduce_red (Nat.mul_pos ha hb)
theorem sub_red {a b : Fr} (ha : 0 < a.den) (hb : 0 < b.den) : Red (Lrx1.sub a b) := reduce_red (Nat.mul_pos ha hb)
theorem mul_red {a b : Fr} (ha : 0 < a.den) (hb : 0 < b.den) : Red (Lrx1.mul a b) := reduce_red (Nat.mul_pos ha hb)
theorem div_red {a b : Fr} (ha : 0 < a.den) (hb : b.num ≠ 0) : Red (Lrx1.divide a b) := reduce_red (Nat.mul_pos ha (Int.natAbs_pos.mpr hb))
theorem red_zero_iff {q : Fr} (h : Red q) : q = Lrx1.zero ↔ q.num = 0 := by
  constructor
  · intro e; rw [e]; rfl
  · intro e
    refine red_eq h zero_red ?_
    rw [e]; show (0 : Int) * _ = 0 * _; omega
theorem zero_add {a : Fr} (h : Red a) : Lrx1.add Lrx1.zero a = a := by
  unfold Lrx1.add
  refine reduce_is ?_ h ?_
  · show 0 < 1 * a.den
    have := h.pos; omega
  · show a.num * ((1 * a.den : Nat) : Int) = (0 * (a.den : Int) + a.num * ((1 : Nat) : Int)) * (a.den : Int)
    push_cast; grind
theorem add_zero {a : Fr} (h : Red a) : Lrx1.add a Lrx1.zero = a := by
  unfold Lrx1.add
  refine reduce_is ?_ h ?_
  · show 0 < a.den * 1
    have := h.pos; omega
  · show a.num * ((a.den * 1 : Nat) : Int) = (a.num * ((1 : Nat) : Int) + 0 * (a.den : Int)) * (a.den : Int)
    push_cast; grind
theorem add_comm (a b : Fr) : Lrx1.add a b = Lrx1.add b a := by
  unfold Lrx1.add
  rw [Nat.mul_comm, Int.add_comm]
/-- what add is, crosswise -/
theorem add_cross {a b : Fr} (ha : 0 < a.den) (hb : 0 < b.den) : (Lrx1.add a b).num * ((a.den : Int) * (b.den : Int)) = (a.num * (b.den : Int) + b.num * (a.den : Int)) * ((Lrx1.add a b).den : Int) := by
  have h := reduce_cross (n := a.num * (b.den : Int) + b.num * (a.den : Int)) (Nat.mul_pos ha hb)
  rw [Int.natCast_mul] at h
  exact h
theorem add_right {z x y : Fr} (hz : 0 < z.den) (hx : 0 < x.den) (hy : 0 < y.den) : Lrx1.add (Lrx1.add z x) y = Lrx1.add (Lrx1.add z y) x := by
  have r1 := add_red hz hx
  have r2 := add_red hz hy
  have r3 := add_red r1.pos hy
  have r4 := add_red r2.pos hx
  have c1 := add_cross hz hx
  have c2 := add_cross hz hy
  have c3 := add_cross r1.pos hy
  have c4 := add_cross r2.pos hx
  refine red_eq r3 r4 ?_
  have p1 := r1.pos
  have p2 := r2.pos
  generalize Lrx1.add (Lrx1.add z x) y = u at *
  generalize Lrx1.add (Lrx1.add z y) x = v at *
  generalize Lrx1.add z x = s at *
  generalize Lrx1.add z y = t at *
  have hk : ((z.den : Int) * (x.den : Int) * (y.den : Int) * (s.den : Int) * (t.den : Int)) ≠ 0 := by
    have h1 : (z.den : Int) ≠ 0 := by omega
    have h2 : (x.den : Int) ≠ 0 := by omega
    have h3 : (y.den : Int) ≠ 0 := by omega
    have h4 : (s.den : Int) ≠ 0 := by omega
    have h5 : (t.den : Int) ≠ 0 := by omega
    exact Int.mul_ne_zero (Int.mul_ne_zero (Int.mul_ne_zero (Int.mul_ne_zero h1 h2) h3) h4) h5
  apply Int.eq_of_mul_eq_mul_right hk
  grind
/-- Euclid's turn -/
theorem gcd_turn {a b : Int} (ha : 0 ≤ a) (hb : 0 < b) : Nat.gcd b.natAbs (a % b).natAbs = Nat.gcd a.natAbs b.natAbs ∧ 0 ≤ a % b ∧ a % b < b := by
  have h1 := Int.emod_nonneg a (show b ≠ 0 by omega)
  have h2 := Int.emod_lt_of_pos a hb
  refine ⟨?_, h1, h2⟩
  obtain ⟨m, rfl⟩ := Int.eq_ofNat_of_zero_le ha
  obtain ⟨n, rfl⟩ := Int.eq_ofNat_of_zero_le (show 0 ≤ b by omega)
  have e : ((m : Int) % (n : Int)) = ((m % n : Nat) : Int) := by rw [Int.natCast_emod]
  rw [e, Int.natAbs_natCast, Int.natAbs_natCast, Int.natAbs_natCast, Nat.gcd_comm n, ← Nat.gcd_rec, Nat.gcd_comm]
/-- numerator and denominator below 2 ^ n -/
def Bd (n : Nat) (q : Fr) : Prop := q.num.natAbs < 2 ^ n ∧ q.den < 2 ^ n
theorem Bd.mono {n m : Nat} {q : Fr} (h : Bd n q) (l : n ≤ m) : Bd m q :=
  ⟨Nat.lt_of_lt_of_le h.1 (Nat.pow_le_pow_right (by decide) l), Nat.lt_of_lt_of_le h.2 (Nat.pow_le_pow_right (by decide) l)⟩
theorem reduce_num_le {n : Int} {d : Nat} (h : 0 < d) : (Lrx1.reduce n d).num.natAbs ≤ n.natAbs := by
  have a := reduce_num (n := n) h
  have g := gcd_pos (n := n) h
  generalize Lrx1.reduce n d = r at a ⊢
  generalize Nat.gcd n.natAbs d = k at a g
  rw [← a, Int.natAbs_mul, Int.natAbs_natCast]
  exact Nat.le_mul_of_pos_right _ g
theorem reduce_den_le {n : Int} {d : Nat} (h : 0 < d) : (Lrx1.reduce n d).den ≤ d := by
  have a := reduce_den (n := n) h
  have g := gcd_pos (n := n) h
  generalize Lrx1.reduce n d = r at a ⊢
  generalize Nat.gcd n.natAbs d = k at a g
  rw [← a]
  exact Nat.le_mul_of_pos_right _ g
theorem reduce_bd {n : Int} {d k : Nat} (h : 0 < d) (h1 : n.natAbs < 2 ^ k) (h2 : d < 2 ^ k) : Bd k (Lrx1.reduce n d) :=
  ⟨Nat.lt_of_le_of_lt (reduce_num_le h) h1, Nat.lt_of_le_of_lt (reduce_den_le h) h2⟩
theorem mul_lt2 {a b m n : Nat} (ha : a < 2 ^ m) (hb : b < 2 ^ n) : a * b < 2 ^ (m + n) := by
  rw [Nat.pow_add]
  exact Nat.mul_lt_mul'' ha hb
theorem sum_bd {x y : Int} {d e : Nat} {a b : Nat} (hx : x.natAbs < 2 ^ a) (hy : y.natAbs < 2 ^ b) (hd : d < 2 ^ a) (he : e < 2 ^ b) : (x * (e : Int) + y * (d : Int)).natAbs < 2 ^ (a + b + 1) := by
  have h1 : (x * (e : Int)).natAbs < 2 ^ (a + b) := by
    rw [Int.natAbs_mul, Int.natAbs_natCast]
    exact mul_lt2 hx he
  have h2 : (y * (d : Int)).natAbs < 2 ^ (a + b) := by
    rw [Int.natAbs_mul, Int.natAbs_natCast, Nat.add_comm]
    exact mul_lt2 hy hd
  have h3 := Int.natAbs_add_le (x * (e : Int)) (y * (d : Int))
  rw [Nat.pow_succ]
  omega
theorem diff_bd {x y : Int} {d e : Nat} {a b : Nat} (hx : x.natAbs < 2 ^ a) (hy : y.natAbs < 2 ^ b) (hd : d < 2 ^ a) (he : e < 2 ^ b) : (x * (e : Int) - y * (d : Int)).natAbs < 2 ^ (a + b + 1) := by
  have h := sum_bd (x := x) (y := -y) hx (by rwa [Int.natAbs_neg]) hd he
  rw [Int.neg_mul] at h
  rw [Int.sub_eq_add_neg]
  exact h
theorem pow_up {a m n : Nat} (h : a < 2 ^ m) (l : m ≤ n) : a < 2 ^ n := Nat.lt_of_lt_of_le h (Nat.pow_le_pow_right (by decide) l)
theorem add_bd {x y : Fr} {a b : Nat} (hx : Bd a x) (hy : Bd b y) (px : 0 < x.den) (py : 0 < y.den) : Bd (a + b + 1) (Lrx1.add x y) :=
  reduce_bd (Nat.mul_pos px py) (sum_bd hx.1 hy.1 hx.2 hy.2) (pow_up (mul_lt2 hx.2 hy.2) (Nat.le_succ _))
theorem sub_bd {x y : Fr} {a b : Nat} (hx : Bd a x) (hy : Bd b y) (px : 0 < x.den) (py : 0 < y.den) : Bd (a + b + 1) (Lrx1.sub x y) :=
  reduce_bd (Nat.mul_pos px py) (diff_bd hx.1 hy.1 hx.2 hy.2) (pow_up (mul_lt2 hx.2 hy.2) (Nat.le_succ _))
theorem mulI_bd {x y : Int} {a b : Nat} (hx : x.natAbs < 2 ^ a) (hy : y.natAbs < 2 ^ b) : (x * y).natAbs < 2 ^ (a + b) := by
  rw [Int.natAbs_mul]
  exact mul_lt2 hx hy
theorem mul_bd {x y : Fr} {a b : Nat} (hx : Bd a x) (hy : Bd b y) (px : 0 < x.den) (py : 0 < y.den) : Bd (a + b) (Lrx1.mul x y) :=
  reduce_bd (Nat.mul_pos px py) (mulI_bd hx.1 hy.1) (mul_lt2 hx.2 hy.2)
theorem div_bd {x y : Fr} {a b : Nat} (hx : Bd a x) (hy : Bd b y) (px : 0 < x.den) (py : y.num ≠ 0) : Bd (a + b) (Lrx1.divide x y) := by
  refine reduce_bd (Nat.mul_pos px (Int.natAbs_pos.mpr py)) ?_ (mul_lt2 hx.2 hy.1)
  have h : (x.num * (y.den : Int)).natAbs < 2 ^ (a + b) := mulI_bd hx.1 (by rw [Int.natAbs_natCast]; exact hy.2)
  split
  · rw [Int.natAbs_neg]; exact h
  · exact h
/-- the other sign -/
def opp (q : Fr) : Fr := ⟨0 - q.num, q.den⟩
theorem opp_red {q : Fr} (h : Red q) : Red (opp q) := ⟨h.pos, by
  show Nat.gcd (0 - q.num).natAbs q.den = 1
  rw [Int.zero_sub, Int.natAbs_neg]; exact h.cop⟩
theorem opp_bd {n : Nat} {q : Fr} (h : Bd n q) : Bd n (opp q) := ⟨by
  show (0 - q.num).natAbs < _
  rw [Int.zero_sub, Int.natAbs_neg]; exact h.1, h.2⟩
theorem opp_opp (q : Fr) : opp (opp q) = q := by
  cases q with
  | mk n d =>
    show Lrx1.Fraction.mk (0 - (0 - n)) d = ⟨n, d⟩
    have e : (0 : Int) - (0 - n) = n := by omega
    rw [e]
theorem sub_zero {q : Fr} (h : Red q) : Lrx1.sub Lrx1.zero q = opp q := by
  unfold Lrx1.sub
  refine reduce_is ?_ (opp_red h) ?_
  · show 0 < 1 * q.den
    have := h.pos; omega
  · show (0 - q.num) * ((1 * q.den : Nat) : Int) = (0 * (q.den : Int) - q.num * ((1 : Nat) : Int)) * (q.den : Int)
    push_cast; grind
theorem opp_zero_iff {q : Fr} : (opp q).num = 0 ↔ q.num = 0 := by
  show 0 - q.num = 0 ↔ _
  omega
end Qu
set_option Elab.async false
set_option maxHeartbeats 4000000
namespace Qu
open Lrx9 (Token Fault Model)
/-! ### expressions: the machine with levels -/
/-- a level behind a factor -/
structure Top where
  total : Fr
  minus : Bool
  term : Fr
/-- a level that waits for a factor -/
structure Pend where
  total : Fr
  minus : Bool
  term : Fr
  op : Nat
  col : Nat
  turned : Bool
def newP : Pend := ⟨Lrx1.zero, false, Lrx1.zero, 0, 0, false⟩
def Top.value (t : Top) : Fr := if t.minus then Lrx1.sub t.total t.term else Lrx1.add t.total t.term
def own (p : Pend) (v : Fr) : Fr := if p.turned then opp v else v
def put (p : Pend) (v : Fr) : Except Fault Top :=
  if p.op = 0 then .ok ⟨p.total, p.minus, own p v⟩
  else if p.op = 42 then .ok ⟨p.total, p.minus, Lrx1.mul p.term (own p v)⟩
  else if own p v = Lrx1.zero then .error ⟨p.col, 6⟩
  else .ok ⟨p.total, p.minus, Lrx1.divide p.term (own p v)⟩
/-- a token that is no sign and no bracket, as a factor -/
def operand (M : Model) (tk : Token) : Except Fault Fr :=
  if tk.kind = 1 then .ok tk.value
  else if tk.kind = 0 then
    if Lrx9.keywords.contains tk.text then .error ⟨tk.column, 3⟩
    else match Lrx9.constantOf M tk.text with
      | none => .error ⟨tk.column, 4⟩
      | some v => .ok v
  else .error ⟨tk.column, 3⟩
inductive MSt where
  | A (p : Pend) (s : List Pend)
  | B (t : Top) (s : List Pend)
def isSy (tk : Token) (b : Nat) : Bool := tk.kind == 2 && tk.text == [b]
/-- behind an operator -/
def opd (t : Top) (b col : Nat) : Pend :=
  if b = 42 ∨ b = 47 then ⟨t.total, t.minus, t.term, b, col, false⟩ else ⟨t.value, b == 45, t.term, 0, col, false⟩
def mach (M : Model) (len : Nat) : List Token → MSt → Except Fault (Fr × List Token)
  | [], .A _ _ => .error ⟨len, 3⟩
  | [], .B t [] => .ok (t.value, [])
  | [], .B _ (_ :: _) => .error ⟨len, 3⟩
  | tk :: r, .A p s =>
    if isSy tk 45 then mach M len r (.A { p with turned := !p.turned } s)
    else if isSy tk 40 then mach M len r (.A newP (p :: s))
    else match operand M tk with
      | .error f => .error f
      | .ok v => match put p v with
        | .error f => .error f
        | .ok t => mach M len r (.B t s)
  | tk :: r, .B t s =>
    if isSy tk 43 then mach M len r (.A (opd t 43 tk.column) s)
    else if isSy tk 45 then mach M len r (.A (opd t 45 tk.column) s)
    else if isSy tk 42 then mach M len r (.A (opd t 42 tk.column) s)
    else if isSy tk 47 then mach M len r (.A (opd t 47 tk.column) s)
    else match s with
      | [] => .ok (t.value, tk :: r)
      | p :: s' => if isSy tk 41 then (match put p t.value with
          | .error f => .error f
          | .ok t' => mach M len r (.B t' s'))
        else .error ⟨tk.column, 3⟩
/-- behind a whole expression -/
def fin (M : Model) (len : Nat) (v : Fr) (more : List Token) : List Pend → Except Fault (Fr × List Token)
  | [] => .ok (v, more)
  | p :: s => if Lrx9.isSymbolAt more 41 then (match put p v with
      | .error f => .error f
      | .ok t => mach M len (more.drop 1) (.B t s)) else .error ⟨Lrx9.columnOf more len, 3⟩
def goT (M : Model) (len : Nat) (tot : Fr) (mi : Bool) (s : List Pend) : Except Fault (Fr × List Token) → Except Fault (Fr × List Token)
  | .error f => .error f
  | .ok (v, more) => mach M len more (.B ⟨tot, mi, v⟩ s)
def goE (M : Model) (len : Nat) (s : List Pend) : Except Fault (Fr × List Token) → Except Fault (Fr × List Token)
  | .error f => .error f
  | .ok (v, more) => fin M len v more s
def goF (M : Model) (len : Nat) (p : Pend) (s : List Pend) : Except Fault (Fr × List Token) → Except Fault (Fr × List Token)
  | .error f => .error f
  | .ok (v, more) => match put p v with
    | .error f => .error f
    | .ok t => mach M len more (.B t s)
structure Sound (M : Model) (rest : List Token) : Prop where
  cs : ∀ e ∈ M.constants, Red e.2
  tk : ∀ t ∈ rest, t.kind ≤ 2 ∧ (t.kind = 1 → Red t.value)
theorem Sound.tail {M : Model} {t : Token} {r : List Token} (h : Sound M (t :: r)) : Sound M r := ⟨h.cs, fun x hx => h.tk x (List.mem_cons_of_mem _ hx)⟩
theorem Sound.of_suffix {M : Model} {l r : List Token} (h : Sound M l) (s : ∀ x ∈ r, x ∈ l) : Sound M r := ⟨h.cs, fun x hx => h.tk x (s x hx)⟩
theorem constant_red {M : Model} {n : Lrx9.Name} {v : Fr} (h : ∀ e ∈ M.constants, Red e.2) (e : Lrx9.constantOf M n = some v) : Red v := by
  unfold Lrx9.constantOf at e
  obtain ⟨x, hx, rfl⟩ := Option.map_eq_some_iff.mp e
  exact h x (List.mem_of_find?_eq_some hx)
/-- what a successful part leaves: a shorter rest of the same tokens, a value in lowest terms -/
structure Left (rest : List Token) (v : Fr) (more : List Token) (d : Nat) : Prop where
  red : Red v
  sub : ∀ x ∈ more, x ∈ rest
  len : more.length + d ≤ rest.length
def noMul (more : List Token) : Prop := Lrx9.isSymbolAt more 42 = false ∧ Lrx9.isSymbolAt more 47 = false
def noAdd (more : List Token) : Prop := Lrx9.isSymbolAt more 43 = false ∧ Lrx9.isSymbolAt more 45 = false
theorem sy_iff {tk : Token} {r : List Token} {b : Nat} : Lrx9.isSymbolAt (tk :: r) b = isSy tk b := rfl
theorem sy_one {tk : Token} {a b : Nat} (h : isSy tk a = true) (ne : a ≠ b) : isSy tk b = false := by
  unfold isSy at *
  simp only [Bool.and_eq_true, beq_iff_eq] at h
  rw [h.1, h.2]
  simp [ne]
theorem opp_turn (p : Pend) {v : Fr} : put { p with turned := !p.turned } v = put p (opp v) := by
  have e : own { p with turned := !p.turned } v = own p (opp v) := by
    unfold own
    cases p.turned
    · rfl
    · simp [opp_opp]
  unfold put
  rw [e]
theorem fin_B {M : Model} {len : Nat} {t : Top} {more : List Token} {s : List Pend} (h1 : noMul more) (h2 : noAdd more) : mach M len more (.B t s) = fin M len t.value more s := by
  cases more with
  | nil => cases s <;> rfl
  | cons tk r =>
    have a1 : isSy tk 42 = false := h1.1
    have a2 : isSy tk 47 = false := h1.2
    have a3 : isSy tk 43 = false := h2.1
    have a4 : isSy tk 45 = false := h2.2
    cases s with
    | nil => simp [mach, fin, a1, a2, a3, a4]
    | cons p s =>
      have e : Lrx9.isSymbolAt (tk :: r) 41 = isSy tk 41 := rfl
      simp only [mach, fin, e, a1, a2, a3, a4, Bool.false_eq_true, if_false]
      rfl
theorem constant_kind {M : Model} {tk : Token} (h0 : tk.kind ≠ 1) (h1 : tk.kind ≠ 0) : operand M tk = .error ⟨tk.column, 3⟩ := by
  unfold operand
  rw [if_neg h0, if_neg h1]
theorem put_new {tot : Fr} {mi : Bool} {x : Fr} {c : Nat} {v : Fr} : put ⟨tot, mi, x, 0, c, false⟩ v = .ok ⟨tot, mi, v⟩ := rfl
/-- the five readings at once -/
structure Five (M : Model) (len fuel : Nat) : Prop where
  fac : ∀ rest p s, Sound M rest → 3 * rest.length + 1 ≤ fuel → mach M len rest (.A p s) = goF M len p s (Lrx9.factor M len fuel rest)
  facL : ∀ rest v more, Sound M rest → Lrx9.factor M len fuel rest = .ok (v, more) → Left rest v more 1
  ter : ∀ rest tot mi x c s, Sound M rest → 3 * rest.length + 2 ≤ fuel → mach M len rest (.A ⟨tot, mi, x, 0, c, false⟩ s) = goT M len tot mi s (Lrx9.term M len fuel rest)
  terL : ∀ rest v more, Sound M rest → Lrx9.term M len fuel rest = .ok (v, more) → Left rest v more 1
  terN : ∀ rest v more, Sound M rest → 3 * rest.length + 2 ≤ fuel → Lrx9.term M len fuel rest = .ok (v, more) → noMul more
  pro : ∀ rest tot mi v s, Sound M rest → Red v → 3 * rest.length + 1 ≤ fuel → mach M len rest (.B ⟨tot, mi, v⟩ s) = goT M len tot mi s (Lrx9.products M len fuel v rest)
  proL : ∀ rest v w more, Sound M rest → Red v → Lrx9.products M len fuel v rest = .ok (w, more) → Left rest w more 0
  proN : ∀ rest v w more, Sound M rest → Red v → 3 * rest.length + 1 ≤ fuel → Lrx9.products M len fuel v rest = .ok (w, more) → noMul more
  sum : ∀ rest t s, Sound M rest → Red t.value → noMul rest → 3 * rest.length + 1 ≤ fuel → mach M len rest (.B t s) = goE M len s (Lrx9.sums M len fuel t.value rest)
  sumL : ∀ rest v w more, Sound M rest → Red v → Lrx9.sums M len fuel v rest = .ok (w, more) → Left rest w more 0
  exp : ∀ rest s, Sound M rest → 3 * rest.length + 3 ≤ fuel → mach M len rest (.A newP s) = goE M len s (Lrx9.expression M len fuel rest)
  expL : ∀ rest v more, Sound M rest → Lrx9.expression M len fuel rest = .ok (v, more) → Left rest v more 1
theorem Left.trans {a b c : List Token} {v w : Fr} {d e : Nat} (h : Left a v b d) (k : Left b w c e) : Left a w c (d + e) :=
  ⟨k.red, fun x hx => h.sub x (k.sub x hx), by have := h.len; have := k.len; omega⟩
theorem Left.weak {a b : List Token} {v : Fr} {d e : Nat} (h : Left a v b d) (l : e ≤ d) : Left a v b e := ⟨h.red, h.sub, by have := h.len; omega⟩
theorem Left.drop {a b : List Token} {v : Fr} {d e : Nat} (h : Left (a.drop 1) v b d) (ha : a ≠ []) (l : e ≤ d + 1) : Left a v b e := by
  cases a with
  | nil => exact absurd rfl ha
  | cons x r =>
    refine ⟨h.red, fun y hy => List.mem_cons_of_mem _ (h.sub y hy), ?_⟩
    have := h.len
    simp only [List.drop_succ_cons, List.drop_zero] at this
    simp only [List.length_cons]
    omega
theorem five (M : Model) (len : Nat) : ∀ fuel, Five M len fuel := by
  intro fuel
  induction fuel with
  | zero =>
    refine ⟨?_, ?_, ?_, ?_, ?_, ?_, ?_, ?_, ?_, ?_, ?_, ?_⟩
    · intro rest p s _ h; omega
    · intro rest v more _ h; simp [Lrx9.factor] at h
    · intro rest tot mi x c s _ h; omega
    · intro rest v more _ h; simp [Lrx9.term] at h
    · intro rest v more _ h; omega
    · intro rest tot mi v s _ _ h; omega
    · intro rest v w more _ hr h
      simp only [Lrx9.products, Except.ok.injEq, Prod.mk.injEq] at h
      obtain ⟨rfl, rfl⟩ := h
      exact ⟨hr, fun x hx => hx, Nat.le_refl _⟩
    · intro rest v w more _ _ h; omega
    · intro rest t s _ _ _ h; omega
    · intro rest v w more _ hr h
      simp only [Lrx9.sums, Except.ok.injEq, Prod.mk.injEq] at h
      obtain ⟨rfl, rfl⟩ := h
      exact ⟨hr, fun x hx => hx, Nat.le_refl _⟩
    · intro rest s _ h; omega
    · intro rest v more _ h; simp [Lrx9.expression] at h
  | succ n ih =>
    have FL : ∀ rest v more, Sound M rest → Lrx9.factor M len (n + 1) rest = .ok (v, more) → Left rest v more 1 := by
      intro rest v more S h
      cases rest with
      | nil => simp [Lrx9.factor] at h
      | cons tk r =>
        have S' := S.tail
        simp only [Lrx9.factor] at h
        split at h
        · simp only [Except.ok.injEq, Prod.mk.injEq] at h
          obtain ⟨rfl, rfl⟩ := h
          exact ⟨(S.tk tk List.mem_cons_self).2 (by assumption), fun x hx => List.mem_cons_of_mem _ hx, Nat.le_refl _⟩
        · split at h
          · split at h
            · cases h
            · split at h
              · cases h
              · rename_i v' e
                simp only [Except.ok.injEq, Prod.mk.injEq] at h
                obtain ⟨rfl, rfl⟩ := h
                exact ⟨constant_red S.cs e, fun x hx => List.mem_cons_of_mem _ hx, Nat.le_refl _⟩
          · split at h
            · split at h
              · cases h
              · rename_i v' after e
                simp only [Except.ok.injEq, Prod.mk.injEq] at h
                obtain ⟨rfl, rfl⟩ := h
                have L := ih.facL r v' after S' e
                refine ⟨by rw [sub_zero L.red]; exact opp_red L.red, fun x hx => List.mem_cons_of_mem _ (L.sub x hx), ?_⟩
                have := L.len
                simp only [List.length_cons]; omega
            · split at h
              · split at h
                · cases h
                · rename_i v' after e
                  split at h
                  · simp only [Except.ok.injEq, Prod.mk.injEq] at h
                    obtain ⟨rfl, rfl⟩ := h
                    have L := ih.expL r v' after S' e
                    refine ⟨L.red, fun x hx => List.mem_cons_of_mem _ (L.sub x (List.mem_of_mem_drop hx)), ?_⟩
                    have := L.len
                    simp only [List.length_cons, List.length_drop]; omega
                  · cases h
              · cases h
    have PL : ∀ rest v w more, Sound M rest → Red v → Lrx9.products M len (n + 1) v rest = .ok (w, more) → Left rest w more 0 := by
      intro rest v w more S hr h
      simp only [Lrx9.products] at h
      split at h
      · rename_i c
        have hne : rest ≠ [] := by rintro rfl; simp [Lrx9.isSymbolAt] at c
        have S' : Sound M (rest.drop 1) := S.of_suffix fun x hx => List.mem_of_mem_drop hx
        split at h
        · cases h
        · rename_i o m e
          have L := ih.facL _ _ _ S' e
          have S2 : Sound M m := S'.of_suffix L.sub
          have LL : Left rest o m 0 := L.drop hne (by omega)
          split at h
          · have L2 := ih.proL _ _ _ _ S2 (mul_red hr.pos L.red.pos) h
            exact LL.trans L2
          · split at h
            · cases h
            · rename_i _ nz
              have L2 := ih.proL _ _ _ _ S2 (div_red hr.pos (fun q => nz ((red_zero_iff L.red).mpr q))) h
              exact LL.trans L2
      · simp only [Except.ok.injEq, Prod.mk.injEq] at h
        obtain ⟨rfl, rfl⟩ := h
        exact ⟨hr, fun x hx => hx, Nat.le_refl _⟩
    have SL : ∀ rest v w more, Sound M rest → Red v → Lrx9.sums M len (n + 1) v rest = .ok (w, more) → Left rest w more 0 := by
      intro rest v w more S hr h
      simp only [Lrx9.sums] at h
      split at h
      · rename_i c
        have hne : rest ≠ [] := by rintro rfl; simp [Lrx9.isSymbolAt] at c
        have S' : Sound M (rest.drop 1) := S.of_suffix fun x hx => List.mem_of_mem_drop hx
        split at h
        · cases h
        · rename_i o m e
          have L := ih.terL _ _ _ S' e
          have S2 : Sound M m := S'.of_suffix L.sub
          have LL : Left rest o m 0 := L.drop hne (by omega)
          refine LL.trans (ih.sumL _ _ _ _ S2 ?_ h)
          split
          · exact add_red hr.pos L.red.pos
          · exact sub_red hr.pos L.red.pos
      · simp only [Except.ok.injEq, Prod.mk.injEq] at h
        obtain ⟨rfl, rfl⟩ := h
        exact ⟨hr, fun x hx => hx, Nat.le_refl _⟩
    have TL : ∀ rest v more, Sound M rest → Lrx9.term M len (n + 1) rest = .ok (v, more) → Left rest v more 1 := by
      intro rest v more S h
      simp only [Lrx9.term] at h
      split at h
      · cases h
      · rename_i o m e
        have L := ih.facL _ _ _ S e
        exact L.trans (ih.proL _ _ _ _ (S.of_suffix L.sub) L.red h)
    have EL : ∀ rest v more, Sound M rest → Lrx9.expression M len (n + 1) rest = .ok (v, more) → Left rest v more 1 := by
      intro rest v more S h
      simp only [Lrx9.expression] at h
      split at h
      · cases h
      · rename_i o m e
        have L := ih.terL _ _ _ S e
        exact L.trans (ih.sumL _ _ _ _ (S.of_suffix L.sub) L.red h)
    refine ⟨?_, FL, ?_, TL, ?_, ?_, PL, ?_, ?_, SL, ?_, EL⟩
    · -- a factor
      intro rest p s S hf
      cases rest with
      | nil => simp [mach, Lrx9.factor, goF]
      | cons tk r =>
        have S' := S.tail
        have hk := (S.tk tk List.mem_cons_self).1
        simp only [List.length_cons] at hf
        by_cases k1 : tk.kind = 1
        · have n1 : isSy tk 45 = false := by simp [isSy, k1]
          have n2 : isSy tk 40 = false := by simp [isSy, k1]
          simp only [mach, n1, n2, Bool.false_eq_true, if_false, operand, k1, if_true, Lrx9.factor, goF]
        · by_cases k0 : tk.kind = 0
          · have n1 : isSy tk 45 = false := by simp [isSy, k0]
            have n2 : isSy tk 40 = false := by simp [isSy, k0]
            have z : ¬ (0 : Nat) = 1 := by decide
            simp only [mach, n1, n2, Bool.false_eq_true, if_false, operand, k0, z, if_true, Lrx9.factor]
            by_cases kw : Lrx9.keywords.contains tk.text = true
            · simp only [kw, if_true]
              rfl
            · simp only [kw, if_false]
              cases Lrx9.constantOf M tk.text with
              | none => rfl
              | some v => rfl
          · have k2 : tk.kind = 2 := by omega
            simp only [mach, isSy, k2, beq_self_eq_true, Bool.true_and, beq_iff_eq, Lrx9.factor]
            rw [if_neg (show ¬ (2 : Nat) = 1 by decide), if_neg (show ¬ (2 : Nat) = 0 by decide)]
            by_cases m1 : tk.text = [45]
            · rw [if_pos m1, if_pos m1]
              rw [ih.fac r _ s S' (by omega)]
              cases e : Lrx9.factor M len n r with
              | error f => rfl
              | ok x =>
                obtain ⟨v, after⟩ := x
                have L := ih.facL _ _ _ S' e
                simp only [goF]
                rw [opp_turn, sub_zero L.red]
            · rw [if_neg m1, if_neg m1]
              by_cases m2 : tk.text = [40]
              · rw [if_pos m2, if_pos m2]
                rw [ih.exp r (p :: s) S' (by omega)]
                cases e : Lrx9.expression M len n r with
                | error f => rfl
                | ok x =>
                  obtain ⟨v, after⟩ := x
                  simp only [goE, fin]
                  split
                  · rfl
                  · rfl
              · rw [if_neg m2, if_neg m2, constant_kind k1 k0]
                rfl
    · -- a term
      intro rest tot mi x c s S hf
      rw [ih.fac rest _ s S (by omega)]
      simp only [Lrx9.term]
      cases e : Lrx9.factor M len n rest with
      | error f => rfl
      | ok y =>
        obtain ⟨v, more⟩ := y
        have L := ih.facL _ _ _ S e
        have := L.len
        simp only [goF, put_new]
        rw [ih.pro more tot mi v s (S.of_suffix L.sub) L.red (by omega)]
    · intro rest v more S hf h
      simp only [Lrx9.term] at h
      split at h
      · cases h
      · rename_i o m e
        have L := ih.facL _ _ _ S e
        have := L.len
        exact ih.proN _ _ _ _ (S.of_suffix L.sub) L.red (by omega) h
    · -- products
      intro rest tot mi v s S hr hf
      cases rest with
      | nil => simp [Lrx9.products, Lrx9.isSymbolAt, goT]
      | cons tk r =>
        have S' := S.tail
        simp only [List.length_cons] at hf
        simp only [Lrx9.products, sy_iff, List.drop_succ_cons, List.drop_zero]
        by_cases c1 : isSy tk 42 = true
        · have a1 := sy_one c1 (b := 43) (by decide)
          have a2 := sy_one c1 (b := 45) (by decide)
          simp only [c1, Bool.true_or, if_true]
          rw [show mach M len (tk :: r) (.B ⟨tot, mi, v⟩ s) = mach M len r (.A (opd ⟨tot, mi, v⟩ 42 tk.column) s) by simp [mach, a1, a2, c1]]
          rw [ih.fac r _ s S' (by omega)]
          cases e : Lrx9.factor M len n r with
          | error f => rfl
          | ok y =>
            obtain ⟨o, more⟩ := y
            have L := ih.facL _ _ _ S' e
            have := L.len
            simp only [goF]
            rw [show put (opd ⟨tot, mi, v⟩ 42 tk.column) o = .ok ⟨tot, mi, Lrx1.mul v o⟩ by simp [put, opd, own]]
            exact ih.pro more tot mi _ s (S'.of_suffix L.sub) (mul_red hr.pos L.red.pos) (by omega)
        · have c1' : isSy tk 42 = false := by simpa using c1
          by_cases c2 : isSy tk 47 = true
          · have a1 := sy_one c2 (b := 43) (by decide)
            have a2 := sy_one c2 (b := 45) (by decide)
            simp only [c1', c2, Bool.or_true, if_true, Bool.false_eq_true, if_false]
            rw [show mach M len (tk :: r) (.B ⟨tot, mi, v⟩ s) = mach M len r (.A (opd ⟨tot, mi, v⟩ 47 tk.column) s) by simp [mach, a1, a2, c1', c2]]
            rw [ih.fac r _ s S' (by omega)]
            cases e : Lrx9.factor M len n r with
            | error f => rfl
            | ok y =>
              obtain ⟨o, more⟩ := y
              have L := ih.facL _ _ _ S' e
              have := L.len
              simp only [goF]
              by_cases z : o = Lrx1.zero
              · rw [show put (opd ⟨tot, mi, v⟩ 47 tk.column) o = .error ⟨tk.column, 6⟩ by simp [put, opd, own, z]]
                simp only [z, if_true]
                rfl
              · rw [show put (opd ⟨tot, mi, v⟩ 47 tk.column) o = .ok ⟨tot, mi, Lrx1.divide v o⟩ by simp [put, opd, own, z]]
                simp only [z, if_false]
                exact ih.pro more tot mi _ s (S'.of_suffix L.sub) (div_red hr.pos (fun q => z ((red_zero_iff L.red).mpr q))) (by omega)
          · have c2' : isSy tk 47 = false := by simpa using c2
            simp only [c1', c2', Bool.or_false, Bool.false_eq_true, if_false]
            rfl
    · intro rest v w more S hr hf h
      simp only [Lrx9.products] at h
      split at h
      · rename_i c
        have S' : Sound M (rest.drop 1) := S.of_suffix fun x hx => List.mem_of_mem_drop hx
        have hne : rest ≠ [] := by rintro rfl; simp [Lrx9.isSymbolAt] at c
        have hl : (rest.drop 1).length + 1 = rest.length := by
          cases rest with
          | nil => exact absurd rfl hne
          | cons _ _ => simp
        split at h
        · cases h
        · rename_i o m e
          have L := ih.facL _ _ _ S' e
          have := L.len
          have S2 : Sound M m := S'.of_suffix L.sub
          split at h
          · exact ih.proN _ _ _ _ S2 (mul_red hr.pos L.red.pos) (by omega) h
          · split at h
            · cases h
            · rename_i _ nz
              exact ih.proN _ _ _ _ S2 (div_red hr.pos (fun q => nz ((red_zero_iff L.red).mpr q))) (by omega) h
      · rename_i c
        simp only [Except.ok.injEq, Prod.mk.injEq] at h
        obtain ⟨rfl, rfl⟩ := h
        simp only [Bool.not_eq_true, Bool.or_eq_false_iff] at c
        exact c
    · -- sums
      intro rest t s S hr hm hf
      cases rest with
      | nil =>
        rw [fin_B ⟨rfl, rfl⟩ ⟨rfl, rfl⟩]
        rfl
      | cons tk r =>
        have S' := S.tail
        simp only [List.length_cons] at hf
        simp only [Lrx9.sums, sy_iff, List.drop_succ_cons, List.drop_zero]
        by_cases c1 : isSy tk 43 = true
        · simp only [c1, Bool.true_or, if_true]
          rw [show mach M len (tk :: r) (.B t s) = mach M len r (.A ⟨t.value, false, t.term, 0, tk.column, false⟩ s) by simp [mach, c1, opd]]
          rw [ih.ter r _ _ _ _ s S' (by omega)]
          cases e : Lrx9.term M len n r with
          | error f => rfl
          | ok y =>
            obtain ⟨o, more⟩ := y
            have L := ih.terL _ _ _ S' e
            have nm := ih.terN _ _ _ S' (by omega) e
            have := L.len
            simp only [goT]
            exact ih.sum more ⟨t.value, false, o⟩ s (S'.of_suffix L.sub) (add_red hr.pos L.red.pos) nm (by omega)
        · have c1' : isSy tk 43 = false := by simpa using c1
          by_cases c2 : isSy tk 45 = true
          · simp only [c1', c2, Bool.or_true, if_true, Bool.false_eq_true, if_false]
            rw [show mach M len (tk :: r) (.B t s) = mach M len r (.A ⟨t.value, true, t.term, 0, tk.column, false⟩ s) by simp [mach, c1', c2, opd]]
            rw [ih.ter r _ _ _ _ s S' (by omega)]
            cases e : Lrx9.term M len n r with
            | error f => rfl
            | ok y =>
              obtain ⟨o, more⟩ := y
              have L := ih.terL _ _ _ S' e
              have nm := ih.terN _ _ _ S' (by omega) e
              have := L.len
              simp only [goT]
              exact ih.sum more ⟨t.value, true, o⟩ s (S'.of_suffix L.sub) (sub_red hr.pos L.red.pos) nm (by omega)
          · have c2' : isSy tk 45 = false := by simpa using c2
            rw [fin_B hm ⟨c1', c2'⟩]
            simp only [c1', c2', Bool.or_false, Bool.false_eq_true, if_false]
            rfl
    · -- an expression
      intro rest s S hf
      simp only [Lrx9.expression]
      show mach M len rest (.A ⟨Lrx1.zero, false, Lrx1.zero, 0, 0, false⟩ s) = _
      rw [ih.ter rest _ _ _ _ s S (by omega)]
      cases e : Lrx9.term M len n rest with
      | error f => rfl
      | ok y =>
        obtain ⟨v, more⟩ := y
        have L := ih.terL _ _ _ S e
        have nm := ih.terN _ _ _ S (by omega) e
        have := L.len
        have ev : Top.value ⟨Lrx1.zero, false, v⟩ = v := zero_add L.red
        simp only [goT]
        have k := ih.sum more ⟨Lrx1.zero, false, v⟩ s (S.of_suffix L.sub) (by rw [ev]; exact L.red) nm (by omega)
        rw [ev] at k
        exact k
/-- the machine reckons what the specification reckons -/
theorem mach_is {M : Model} {len : Nat} {rest : List Token} (S : Sound M rest) (h : rest.length ≤ len) : mach M len rest (.A newP []) = Lrx9.evaluate M len rest := by
  unfold Lrx9.evaluate
  rw [(five M len (4 * len + 8)).exp rest [] S (by omega)]
  cases Lrx9.expression M len (4 * len + 8) rest with
  | error f => rfl
  | ok y => rfl
theorem evaluate_left {M : Model} {len : Nat} {rest more : List Token} {v : Fr} (S : Sound M rest) (h : Lrx9.evaluate M len rest = .ok (v, more)) : Left rest v more 1 := (five M len _).expL _ _ _ S h
end Qu
set_option Elab.async false
set_option maxHeartbeats 4000000
namespace Qu
open Lrx9 (Token Fault Model)
/-! ### tokens -/
def runEnd (P : Nat → Bool) (row : List Nat) (k : Nat) : Nat := k + ((row.drop k).takeWhile P).length
theorem drop_of {row : List Nat} {k b : Nat} (h : row[k]? = some b) : row.drop k = b :: row.drop (k + 1) := by
  obtain ⟨hk, e⟩ := List.getElem?_eq_some_iff.mp h
  rw [List.drop_eq_getElem_cons hk, e]
theorem runEnd_step {P : Nat → Bool} {row : List Nat} {k b : Nat} (h : row[k]? = some b) (p : P b = true) : runEnd P row k = runEnd P row (k + 1) := by
  unfold runEnd
  rw [drop_of h, List.takeWhile_cons, if_pos p, List.length_cons]
  omega
theorem runEnd_no {P : Nat → Bool} {row : List Nat} {k b : Nat} (h : row[k]? = some b) (p : P b = false) : runEnd P row k = k := by
  unfold runEnd
  rw [drop_of h, List.takeWhile_cons, if_neg (by rw [p]; decide)]
  rfl
theorem runEnd_out {P : Nat → Bool} {row : List Nat} {k : Nat} (h : row.length ≤ k) : runEnd P row k = k := by
  unfold runEnd
  rw [List.drop_eq_nil_of_le h]
  rfl
theorem takeWhile_le {P : Nat → Bool} (l : List Nat) : (l.takeWhile P).length ≤ l.length := (List.takeWhile_sublist P).length_le
theorem runEnd_le {P : Nat → Bool} {row : List Nat} {k : Nat} (h : k ≤ row.length) : runEnd P row k ≤ row.length := by
  unfold runEnd
  have := takeWhile_le (P := P) (row.drop k)
  rw [List.length_drop] at this
  omega
theorem take_run {P : Nat → Bool} : ∀ l : List Nat, l.take (l.takeWhile P).length = l.takeWhile P
  | [] => rfl
  | b :: r => by
    rw [List.takeWhile_cons]
    by_cases h : P b = true
    · rw [if_pos h, List.length_cons, List.take_succ_cons, take_run r]
    · rw [if_neg h]; rfl
theorem run_all {P : Nat → Bool} : ∀ (l : List Nat) x, x ∈ l.takeWhile P → P x = true
  | [], x, h => by cases h
  | b :: r, x, h => by
    rw [List.takeWhile_cons] at h
    by_cases hb : P b = true
    · rw [if_pos hb] at h
      rcases List.mem_cons.mp h with e | m
      · rw [e]; exact hb
      · exact run_all r x m
    · rw [if_neg hb] at h; cases h
def placesOf (after : List Nat) : List Nat := match after with
  | 46 :: more => more.takeWhile Lrx9.isDigit
  | _ => []
theorem places_yes {row : List Nat} {e : Nat} (h : row[e]? = some 46) : placesOf (row.drop e) = (row.drop (e + 1)).takeWhile Lrx9.isDigit := by
  rw [drop_of h]; rfl
theorem places_no {row : List Nat} {e : Nat} (h : row[e]? ≠ some 46) : placesOf (row.drop e) = [] := by
  cases hd : row.drop e with
  | nil => rfl
  | cons b r =>
    have hb : row[e]? = some b := by
      have := List.getElem?_drop (xs := row) (i := e) (j := 0)
      rw [hd] at this
      simpa using this.symm
    unfold placesOf
    split
    · rename_i more heq
      injection heq with h1 h2
      rw [hb, h1] at h
      exact absurd rfl h
    · rfl
theorem read_letter {bytes : List Nat} {b : Nat} {r : List Nat} {col : Nat} (e : bytes = b :: r) (h : Lrx9.isLetter b = true) :
    Lrx9.readToken bytes col = if 12 < (bytes.takeWhile Lrx9.isNameByte).length then .error ⟨col, 2⟩ else .ok (⟨0, bytes.takeWhile Lrx9.isNameByte, Lrx1.zero, col⟩, (bytes.takeWhile Lrx9.isNameByte).length) := by
  subst e
  simp only [Lrx9.readToken, h, if_true, Lrx9.maxName]
  rfl
theorem read_digit {bytes : List Nat} {b : Nat} {r : List Nat} {col : Nat} (e : bytes = b :: r) (h0 : Lrx9.isLetter b = false) (h : Lrx9.isDigit b = true) :
    Lrx9.readToken bytes col = if 9 < (bytes.takeWhile Lrx9.isDigit).length ∨ 6 < (placesOf (bytes.drop (bytes.takeWhile Lrx9.isDigit).length)).length then .error ⟨col, 2⟩
      else .ok (⟨1, [], Lrx1.reduce (Lrx9.digitsValue (bytes.takeWhile Lrx9.isDigit ++ placesOf (bytes.drop (bytes.takeWhile Lrx9.isDigit).length)) : Int) (10 ^ (placesOf (bytes.drop (bytes.takeWhile Lrx9.isDigit).length)).length), col⟩,
        (bytes.takeWhile Lrx9.isDigit).length + (if placesOf (bytes.drop (bytes.takeWhile Lrx9.isDigit).length) = [] then 0 else (placesOf (bytes.drop (bytes.takeWhile Lrx9.isDigit).length)).length + 1)) := by
  subst e
  simp only [Lrx9.readToken, h0, h, if_true, Bool.false_eq_true, if_false]
  rfl
theorem read_symbol {b : Nat} {r : List Nat} {col : Nat} (h0 : Lrx9.isLetter b = false) (h : Lrx9.isDigit b = false) :
    Lrx9.readToken (b :: r) col = if Lrx9.isSymbol b = true then .ok (⟨2, [b], Lrx1.zero, col⟩, 1) else .error ⟨col, 1⟩ := by
  simp only [Lrx9.readToken, h0, h, Bool.false_eq_true, if_false]
/-- the tokens from a place on -/
def tokAt (row : List Nat) (p : Nat) : Except Fault (List Token) := Lrx9.tokensFrom (row.length + 1) (row.drop p) p
theorem read_len {bytes : List Nat} {col : Nat} {t : Token} {n : Nat} (h : Lrx9.readToken bytes col = .ok (t, n)) : 1 ≤ n := by
  cases bytes with
  | nil => simp [Lrx9.readToken] at h
  | cons b r =>
    by_cases hl : Lrx9.isLetter b = true
    · rw [read_letter rfl hl] at h
      split at h
      · cases h
      · simp only [Except.ok.injEq, Prod.mk.injEq] at h
        rw [← h.2, List.takeWhile_cons, if_pos (by simp [Lrx9.isNameByte, hl]), List.length_cons]
        omega
    · have hl' : Lrx9.isLetter b = false := by simpa using hl
      by_cases hd : Lrx9.isDigit b = true
      · rw [read_digit rfl hl' hd] at h
        split at h
        · cases h
        · simp only [Except.ok.injEq, Prod.mk.injEq] at h
          have e : ((b :: r).takeWhile Lrx9.isDigit).length = (r.takeWhile Lrx9.isDigit).length + 1 := by rw [List.takeWhile_cons, if_pos hd]; rfl
          omega
      · have hd' : Lrx9.isDigit b = false := by simpa using hd
        rw [read_symbol hl' hd'] at h
        split at h
        · simp only [Except.ok.injEq, Prod.mk.injEq] at h
          omega
        · cases h
theorem tokensFrom_fuel : ∀ (n : Nat) (f g : Nat) (l : List Nat) (p : Nat), l.length ≤ n → l.length < f → l.length < g → Lrx9.tokensFrom f l p = Lrx9.tokensFrom g l p := by
  intro n
  induction n with
  | zero =>
    intro f g l p h hf hg
    have : l = [] := List.length_eq_zero_iff.mp (by omega)
    subst this
    cases f with
    | zero => omega
    | succ f => cases g with
      | zero => omega
      | succ g => rfl
  | succ n ih =>
    intro f g l p h hf hg
    cases l with
    | nil => cases f with
      | zero => omega
      | succ f => cases g with
        | zero => omega
        | succ g => rfl
    | cons b r =>
      cases f with
      | zero => omega
      | succ f => cases g with
        | zero => omega
        | succ g =>
          simp only [List.length_cons] at h hf hg
          simp only [Lrx9.tokensFrom]
          split
          · rfl
          · split
            · exact ih f g r (p + 1) (by omega) (by omega) (by omega)
            · cases e : Lrx9.readToken (b :: r) p with
              | error x => rfl
              | ok y =>
                obtain ⟨t, m⟩ := y
                have hm := read_len e
                have hl : ((b :: r).drop m).length ≤ r.length := by
                  rw [List.length_drop, List.length_cons]; omega
                simp only
                rw [ih f g ((b :: r).drop m) (p + m) (by omega) (by omega) (by omega)]
theorem tokAt_0 (row : List Nat) : tokAt row 0 = Lrx9.tokens row := rfl
theorem tokAt_end {row : List Nat} {p : Nat} (h : row.length ≤ p) : tokAt row p = .ok [] := by
  unfold tokAt
  rw [List.drop_eq_nil_of_le h]
  rfl
theorem tokAt_hash {row : List Nat} {p : Nat} (h : row[p]? = some 35) : tokAt row p = .ok [] := by
  unfold tokAt
  rw [drop_of h]
  simp [Lrx9.tokensFrom]
theorem fuel_at {row : List Nat} {p : Nat} {f : Nat} (h : row.length - p < f) : Lrx9.tokensFrom f (row.drop p) p = tokAt row p :=
  tokensFrom_fuel _ _ _ _ _ (Nat.le_refl _) (by rw [List.length_drop]; exact h) (by rw [List.length_drop]; omega)
theorem tokAt_blank {row : List Nat} {p b : Nat} (h : row[p]? = some b) (hb : b = 32 ∨ b = 9) : tokAt row p = tokAt row (p + 1) := by
  have hp := (List.getElem?_eq_some_iff.mp h).1
  have e : tokAt row p = Lrx9.tokensFrom row.length (row.drop (p + 1)) (p + 1) := by
    unfold tokAt
    rw [drop_of h]
    simp only [Lrx9.tokensFrom]
    rw [if_neg (by omega), if_pos hb]
  rw [e]
  exact fuel_at (by omega)
theorem tokAt_token {row : List Nat} {p b : Nat} (h : row[p]? = some b) (h1 : b ≠ 35) (h2 : ¬ (b = 32 ∨ b = 9)) :
    tokAt row p = match Lrx9.readToken (row.drop p) p with
      | .error f => .error f
      | .ok (t, n) => match tokAt row (p + n) with
        | .error f => .error f
        | .ok ts => .ok (t :: ts) := by
  have hp := (List.getElem?_eq_some_iff.mp h).1
  unfold tokAt
  rw [drop_of h]
  simp only [Lrx9.tokensFrom]
  rw [if_neg h1, if_neg h2]
  cases e : Lrx9.readToken (b :: row.drop (p + 1)) p with
  | error f => rfl
  | ok y =>
    obtain ⟨t, n⟩ := y
    have hn := read_len e
    simp only
    rw [← drop_of h, List.drop_drop]
    rw [show Lrx9.tokensFrom row.length (row.drop (p + n)) (p + n) = Lrx9.tokensFrom (row.length + 1) (row.drop (p + n)) (p + n) from tokensFrom_fuel _ _ _ _ _ (Nat.le_refl _) (by rw [List.length_drop]; omega) (by rw [List.length_drop]; omega)]
    cases Lrx9.tokensFrom (row.length + 1) (row.drop (p + n)) (p + n) <;> rfl
/-- what a token is -/
structure TokOk (t : Token) : Prop where
  kind : t.kind ≤ 2
  red : t.kind = 1 → Red t.value ∧ Bd 51 t.value
  len : t.text.length ≤ 12
  nm : t.kind = 0 → (∀ b ∈ t.text, Lrx9.isNameByte b = true) ∧ t.text ≠ []
  lo : ∀ b ∈ t.text, b < 128
theorem name_lo {b : Nat} (h : Lrx9.isNameByte b = true) : b < 128 := by
  unfold Lrx9.isNameByte Lrx9.isLetter Lrx9.isDigit at h
  simp only [Bool.or_eq_true, decide_eq_true_eq, beq_iff_eq] at h
  omega
theorem sym_lo {b : Nat} (h : Lrx9.isSymbol b = true) : b < 128 := by
  unfold Lrx9.isSymbol at h
  simp only [List.contains_cons, List.contains_nil, Bool.or_false, Bool.or_eq_true, beq_iff_eq] at h
  omega
theorem digits_le : ∀ (l : List Nat), (∀ b ∈ l, Lrx9.isDigit b = true) → ∀ v, l.foldl (fun (v b : Nat) => v * 10 + (b - 48)) v < (v + 1) * 10 ^ l.length
  | [], _, v => by simp
  | b :: r, h, v => by
    have hb := h b List.mem_cons_self
    simp only [Lrx9.isDigit, decide_eq_true_eq] at hb
    have ih := digits_le r (fun x hx => h x (List.mem_cons_of_mem _ hx)) (v * 10 + (b - 48))
    rw [List.foldl_cons, List.length_cons, Nat.pow_succ]
    refine Nat.lt_of_lt_of_le ih ?_
    have : v * 10 + (b - 48) + 1 ≤ (v + 1) * 10 := by omega
    calc (v * 10 + (b - 48) + 1) * 10 ^ r.length ≤ ((v + 1) * 10) * 10 ^ r.length := Nat.mul_le_mul_right _ this
      _ = (v + 1) * (10 ^ r.length * 10) := by rw [Nat.mul_assoc, Nat.mul_comm 10]
theorem read_ok {bytes : List Nat} {col : Nat} {t : Token} {n : Nat} (h : Lrx9.readToken bytes col = .ok (t, n)) : TokOk t := by
  cases bytes with
  | nil => simp [Lrx9.readToken] at h
  | cons b r =>
    by_cases hl : Lrx9.isLetter b = true
    · rw [read_letter rfl hl] at h
      split at h
      · cases h
      · simp only [Except.ok.injEq, Prod.mk.injEq] at h
        obtain ⟨rfl, rfl⟩ := h
        refine ⟨Nat.zero_le _, fun q => absurd q (by simp), by simp only; omega, fun _ => ⟨run_all _, ?_⟩, fun b hb => name_lo (run_all _ b hb)⟩
        have hnb : Lrx9.isNameByte b = true := by simp [Lrx9.isNameByte, hl]
        simp only
        rw [List.takeWhile_cons, if_pos hnb]
        exact List.cons_ne_nil _ _
    · have hl' : Lrx9.isLetter b = false := by simpa using hl
      by_cases hd : Lrx9.isDigit b = true
      · rw [read_digit rfl hl' hd] at h
        split at h
        · cases h
        · rename_i hn
          simp only [Except.ok.injEq, Prod.mk.injEq] at h
          obtain ⟨rfl, rfl⟩ := h
          refine ⟨by simp, fun _ => ?_, by simp, fun q => absurd q (by simp), fun b hb => by cases hb⟩
          have hp : 0 < 10 ^ (placesOf ((b :: r).drop ((b :: r).takeWhile Lrx9.isDigit).length)).length := Nat.pow_pos (by decide)
          refine ⟨reduce_red hp, reduce_bd hp ?_ ?_⟩
          · rw [Int.natAbs_natCast]
            have k := digits_le ((b :: r).takeWhile Lrx9.isDigit ++ placesOf ((b :: r).drop ((b :: r).takeWhile Lrx9.isDigit).length)) (fun x hx => by
              rcases List.mem_append.mp hx with m | m
              · exact run_all _ x m
              · unfold placesOf at m
                split at m
                · exact run_all _ x m
                · cases m) 0
            unfold Lrx9.digitsValue
            rw [Nat.zero_add, Nat.one_mul, List.length_append] at k
            refine Nat.lt_of_lt_of_le k (Nat.le_trans (Nat.pow_le_pow_right (by decide) (show _ ≤ 15 by omega)) (by decide))
          · refine Nat.lt_of_le_of_lt (Nat.pow_le_pow_right (by decide) (show _ ≤ 6 by omega)) (by decide)
      · have hd' : Lrx9.isDigit b = false := by simpa using hd
        rw [read_symbol hl' hd'] at h
        split at h
        · simp only [Except.ok.injEq, Prod.mk.injEq] at h
          obtain ⟨rfl, rfl⟩ := h
          rename_i hsy
          exact ⟨by simp, fun q => absurd q (by simp), by simp, fun q => absurd q (by simp), fun b hb => by rw [List.mem_singleton] at hb; rw [hb]; exact sym_lo hsy⟩
        · cases h
/-- how many bytes a token takes -/
theorem read_fits {bytes : List Nat} {col : Nat} {t : Token} {n : Nat} (h : Lrx9.readToken bytes col = .ok (t, n)) : n ≤ bytes.length := by
  cases bytes with
  | nil => simp [Lrx9.readToken] at h
  | cons b r =>
    by_cases hl : Lrx9.isLetter b = true
    · rw [read_letter rfl hl] at h
      split at h
      · cases h
      · simp only [Except.ok.injEq, Prod.mk.injEq] at h
        rw [← h.2]
        exact takeWhile_le _
    · have hl' : Lrx9.isLetter b = false := by simpa using hl
      by_cases hd : Lrx9.isDigit b = true
      · rw [read_digit rfl hl' hd] at h
        split at h
        · cases h
        · simp only [Except.ok.injEq, Prod.mk.injEq] at h
          rw [← h.2]
          have h1 : (placesOf ((b :: r).drop ((b :: r).takeWhile Lrx9.isDigit).length)).length + 1 ≤ ((b :: r).drop ((b :: r).takeWhile Lrx9.isDigit).length).length ∨ placesOf ((b :: r).drop ((b :: r).takeWhile Lrx9.isDigit).length) = [] := by
            generalize (b :: r).drop ((b :: r).takeWhile Lrx9.isDigit).length = aft
            unfold placesOf
            split
            · rename_i more
              left
              have := takeWhile_le (P := Lrx9.isDigit) more
              simp only [List.length_cons]; omega
            · right; rfl
          have h2 := takeWhile_le (P := Lrx9.isDigit) (b :: r)
          rw [List.length_drop] at h1
          rcases h1 with h1 | h1
          · split <;> omega
          · rw [if_pos h1]; exact h2
      · have hd' : Lrx9.isDigit b = false := by simpa using hd
        rw [read_symbol hl' hd'] at h
        split at h
        · simp only [Except.ok.injEq, Prod.mk.injEq] at h
          rw [← h.2, List.length_cons]; omega
        · cases h
theorem toks_ok : ∀ (n : Nat) (row : List Nat) (p : Nat) (ts : List Token), row.length - p ≤ n → tokAt row p = .ok ts → (∀ t ∈ ts, TokOk t) ∧ ts.length ≤ row.length - p
  | n, row, p, ts, hn, h => by
    by_cases hp : row.length ≤ p
    · rw [tokAt_end hp] at h
      cases h
      exact ⟨fun t ht => (by cases ht), Nat.zero_le _⟩
    · obtain ⟨b, hb⟩ : ∃ b, row[p]? = some b := ⟨_, List.getElem?_eq_getElem (by omega)⟩
      cases n with
      | zero => omega
      | succ n =>
        by_cases h35 : b = 35
        · rw [tokAt_hash (by rw [hb, h35])] at h
          cases h
          exact ⟨fun t ht => (by cases ht), Nat.zero_le _⟩
        · by_cases hbl : b = 32 ∨ b = 9
          · rw [tokAt_blank hb hbl] at h
            obtain ⟨h1, h2⟩ := toks_ok n row (p + 1) ts (by omega) h
            exact ⟨h1, by omega⟩
          · rw [tokAt_token hb h35 hbl] at h
            cases e : Lrx9.readToken (row.drop p) p with
            | error f => rw [e] at h; cases h
            | ok y =>
              obtain ⟨t, m⟩ := y
              rw [e] at h
              simp only at h
              have hm := read_len e
              have hf := read_fits e
              rw [List.length_drop] at hf
              cases e2 : tokAt row (p + m) with
              | error f => rw [e2] at h; cases h
              | ok us =>
                rw [e2] at h
                simp only [Except.ok.injEq] at h
                subst h
                obtain ⟨h1, h2⟩ := toks_ok n row (p + m) us (by omega) e2
                refine ⟨fun x hx => ?_, by rw [List.length_cons]; omega⟩
                rcases List.mem_cons.mp hx with q | q
                · rw [q]; exact read_ok e
                · exact h1 x q
theorem tokens_ok {row : List Nat} {ts : List Token} (h : Lrx9.tokens row = .ok ts) : (∀ t ∈ ts, TokOk t) ∧ ts.length ≤ row.length := by
  have k := toks_ok _ row 0 ts (Nat.le_refl _) h
  exact ⟨k.1, by simpa using k.2⟩
end Qu
set_option Elab.async false
set_option maxHeartbeats 4000000
namespace Qu
open Lrx9 (Token Fault Model)
/-! ### the machine in three parts, its bits -/
def aRun (M : Model) (len : Nat) : List Token → Pend → List Pend → Except Fault (Top × List Pend × List Token)
  | [], _, _ => .error ⟨len, 3⟩
  | tk :: r, p, s =>
    if isSy tk 45 then aRun M len r { p with turned := !p.turned } s
    else if isSy tk 40 then aRun M len r newP (p :: s)
    else match operand M tk with
      | .error f => .error f
      | .ok v => match put p v with
        | .error f => .error f
        | .ok t => .ok (t, s, r)
def cRun : List Token → Top → List Pend → Except Fault (Top × List Pend × List Token)
  | tk :: r, t, p :: s => if isSy tk 41 then (match put p t.value with
      | .error f => .error f
      | .ok t' => cRun r t' s) else .ok (t, p :: s, tk :: r)
  | rest, t, s => .ok (t, s, rest)
def goB (M : Model) (len : Nat) : Except Fault (Top × List Pend × List Token) → Except Fault (Fr × List Token)
  | .error f => .error f
  | .ok (t, s, r) => mach M len r (.B t s)
theorem mach_a (M : Model) (len : Nat) : ∀ (rest : List Token) (p : Pend) (s : List Pend), mach M len rest (.A p s) = goB M len (aRun M len rest p s)
  | [], p, s => by simp [mach, aRun, goB]
  | tk :: r, p, s => by
    simp only [mach, aRun]
    split
    · exact mach_a M len r _ _
    · split
      · exact mach_a M len r _ _
      · cases operand M tk with
        | error f => rfl
        | ok v =>
          simp only
          cases put p v with
          | error f => rfl
          | ok t => rfl
theorem sy_41 {tk : Token} (h : isSy tk 41 = true) (b : Nat) (n : b ≠ 41) : isSy tk b = false := by
  unfold isSy at h ⊢
  rw [Bool.and_eq_true, beq_iff_eq, beq_iff_eq] at h
  rw [h.2]
  simp [Ne.symm n]
theorem mach_c (M : Model) (len : Nat) : ∀ (rest : List Token) (t : Top) (s : List Pend), mach M len rest (.B t s) = goB M len (cRun rest t s)
  | [], t, [] => rfl
  | [], t, _ :: _ => rfl
  | tk :: r, t, [] => rfl
  | tk :: r, t, p :: s => by
    simp only [cRun]
    split
    · rename_i c
      simp only [mach, sy_41 c 43 (by decide), sy_41 c 45 (by decide), sy_41 c 42 (by decide), sy_41 c 47 (by decide), Bool.false_eq_true, if_false, c, if_true]
      cases put p t.value with
      | error f => rfl
      | ok t' => exact mach_c M len r t' s
    · rfl
/-- an operator at the beginning -/
def opAt (rest : List Token) : Option Nat := match rest with
  | [] => none
  | tk :: _ => if isSy tk 43 then some 43 else if isSy tk 45 then some 45 else if isSy tk 42 then some 42 else if isSy tk 47 then some 47 else none
/-- nothing to close -/
def Closed (rest : List Token) (s : List Pend) : Prop := s = [] ∨ Lrx9.isSymbolAt rest 41 = false
theorem cRun_closed : ∀ {rest : List Token} {t t' : Top} {s s' : List Pend} {r : List Token}, cRun rest t s = .ok (t', s', r) → Closed r s'
  | [], t, t', [], s', r, h => by simp [cRun] at h; exact .inl (by simp [h.2.1])
  | [], t, t', p :: s, s', r, h => by simp [cRun] at h; obtain ⟨_, _, rfl⟩ := h; exact .inr rfl
  | tk :: r0, t, t', [], s', r, h => by simp [cRun] at h; exact .inl (by simp [h.2.1])
  | tk :: r0, t, t', p :: s, s', r, h => by
    simp only [cRun] at h
    split at h
    · split at h
      · cases h
      · exact cRun_closed h
    · rename_i c
      simp only [Except.ok.injEq, Prod.mk.injEq] at h
      obtain ⟨_, _, rfl⟩ := h
      exact .inr (by simpa [sy_iff] using c)
theorem mach_op {M : Model} {len : Nat} {tk : Token} {r : List Token} {t : Top} {s : List Pend} {b : Nat} (h : opAt (tk :: r) = some b) : mach M len (tk :: r) (.B t s) = mach M len r (.A (opd t b tk.column) s) := by
  unfold opAt at h
  simp only at h
  simp only [mach]
  split at h
  · rename_i c; cases h; rw [if_pos c]
  · rename_i c0
    rw [if_neg c0]
    split at h
    · rename_i c; cases h; rw [if_pos c]
    · rename_i c1
      rw [if_neg c1]
      split at h
      · rename_i c; cases h; rw [if_pos c]
      · rename_i c2
        rw [if_neg c2]
        split at h
        · rename_i c; cases h; rw [if_pos c]
        · cases h
theorem mach_end {M : Model} {len : Nat} {rest : List Token} {t : Top} {s : List Pend} (h : opAt rest = none) (c : Closed rest s) : mach M len rest (.B t s) = if s = [] then .ok (t.value, rest) else .error ⟨Lrx9.columnOf rest len, 3⟩ := by
  cases rest with
  | nil => cases s <;> simp [mach, Lrx9.columnOf]
  | cons tk r =>
    unfold opAt at h
    simp only at h
    simp only [mach]
    split at h
    · cases h
    · rename_i c0
      rw [if_neg c0]
      split at h
      · cases h
      · rename_i c1
        rw [if_neg c1]
        split at h
        · cases h
        · rename_i c2
          rw [if_neg c2]
          split at h
          · cases h
          · rename_i c3
            rw [if_neg c3]
            cases s with
            | nil => simp
            | cons p s' =>
              have c4 : isSy tk 41 = false := by
                rcases c with c | c
                · cases c
                · exact c
              simp [c4, Lrx9.columnOf]
/-! bits -/
structure VP (p : Pend) (n : Nat) : Prop where
  rt : Red p.total
  rm : Red p.term
  bd : ∃ a b, Bd a p.total ∧ (p.op ≠ 0 → Bd b p.term) ∧ a + b ≤ n
structure VT (t : Top) (n : Nat) : Prop where
  rt : Red t.total
  rm : Red t.term
  bd : ∃ a b, Bd a t.total ∧ Bd b t.term ∧ a + b ≤ n
def SB : List Pend → Nat → Prop
  | [], _ => True
  | p :: s, n => ∃ a b, VP p a ∧ SB s b ∧ a + b ≤ n
theorem SB.mono : ∀ {s : List Pend} {n m : Nat}, SB s n → n ≤ m → SB s m
  | [], _, _, _, _ => trivial
  | _ :: _, _, _, ⟨a, b, x, y, l⟩, k => ⟨a, b, x, y, by omega⟩
theorem bd_zero : Bd 1 Lrx1.zero := ⟨by decide, by decide⟩
theorem vp_new : VP newP 1 := ⟨zero_red, zero_red, 1, 0, bd_zero, fun h => absurd rfl h, by omega⟩
theorem vp_turn {p : Pend} {n : Nat} (h : VP p n) (c : Bool) : VP { p with turned := c } n := ⟨h.rt, h.rm, h.bd⟩
theorem own_red {p : Pend} {v : Fr} (h : Red v) : Red (own p v) := by
  unfold own
  split
  · exact opp_red h
  · exact h
theorem own_bd {p : Pend} {v : Fr} {n : Nat} (h : Bd n v) : Bd n (own p v) := by
  unfold own
  split
  · exact opp_bd h
  · exact h
theorem put_vt {p : Pend} {v : Fr} {t : Top} {n m : Nat} (h : VP p n) (hv : Red v) (bv : Bd m v) (e : put p v = .ok t) : VT t (n + m) := by
  obtain ⟨a, b, ba, bb, l⟩ := h.bd
  have ro := own_red (p := p) hv
  have bo := own_bd (p := p) bv
  unfold put at e
  split at e
  · cases e
    exact ⟨h.rt, ro, a, m, ba, bo, by omega⟩
  · rename_i op0
    split at e
    · cases e
      exact ⟨h.rt, mul_red h.rm.pos ro.pos, a, b + m, ba, mul_bd (bb op0) bo h.rm.pos ro.pos, by omega⟩
    · split at e
      · cases e
      · rename_i nz
        cases e
        have nn : (own p v).num ≠ 0 := fun q => nz ((red_zero_iff ro).mpr q)
        exact ⟨h.rt, div_red h.rm.pos nn, a, b + m, ba, div_bd (bb op0) bo h.rm.pos nn, by omega⟩
theorem value_ok {t : Top} {n : Nat} (h : VT t n) : Red t.value ∧ Bd (n + 1) t.value := by
  obtain ⟨a, b, ba, bb, l⟩ := h.bd
  unfold Top.value
  split
  · exact ⟨sub_red h.rt.pos h.rm.pos, (sub_bd ba bb h.rt.pos h.rm.pos).mono (by omega)⟩
  · exact ⟨add_red h.rt.pos h.rm.pos, (add_bd ba bb h.rt.pos h.rm.pos).mono (by omega)⟩
theorem opd_vp {t : Top} {n b col : Nat} (h : VT t n) : VP (opd t b col) (n + 1) := by
  have v := value_ok h
  obtain ⟨a, c, ba, bc, l⟩ := h.bd
  unfold opd
  split
  · exact ⟨h.rt, h.rm, a, c, ba, fun _ => bc, by omega⟩
  · exact ⟨v.1, h.rm, n + 1, 0, v.2, fun q => absurd rfl q, by omega⟩
/-- constants and tokens are small -/
structure Fine (M : Model) (rest : List Token) : Prop where
  cs : ∀ e ∈ M.constants, Red e.2 ∧ Bd 60 e.2
  tk : ∀ t ∈ rest, t.kind ≤ 2 ∧ (t.kind = 1 → Red t.value ∧ Bd 60 t.value)
theorem Fine.sound {M : Model} {rest : List Token} (h : Fine M rest) : Sound M rest := ⟨fun e he => (h.cs e he).1, fun t ht => ⟨(h.tk t ht).1, fun k => ((h.tk t ht).2 k).1⟩⟩
theorem Fine.drop {M : Model} {rest : List Token} (h : Fine M rest) (k : Nat) : Fine M (rest.drop k) := ⟨h.cs, fun t ht => h.tk t (List.mem_of_mem_drop ht)⟩
theorem Fine.tail {M : Model} {tk : Token} {r : List Token} (h : Fine M (tk :: r)) : Fine M r := ⟨h.cs, fun t ht => h.tk t (List.mem_cons_of_mem _ ht)⟩
theorem operand_fine {M : Model} {tk : Token} {r : List Token} {v : Fr} (h : Fine M (tk :: r)) (e : operand M tk = .ok v) : Red v ∧ Bd 60 v := by
  unfold operand at e
  split at e
  · rename_i k
    cases e
    exact (h.tk tk List.mem_cons_self).2 k
  · split at e
    · split at e
      · cases e
      · split at e
        · cases e
        · rename_i v' c
          cases e
          unfold Lrx9.constantOf at c
          obtain ⟨x, hx, rfl⟩ := Option.map_eq_some_iff.mp c
          exact h.cs x (List.mem_of_find?_eq_some hx)
    · cases e
def PA (p : Pend) (s : List Pend) (rest : List Token) : Prop := ∃ a b, VP p a ∧ SB s b ∧ a + b + 61 * rest.length ≤ 6000
def PT (t : Top) (s : List Pend) (rest : List Token) : Prop := ∃ a b, VT t a ∧ SB s b ∧ a + b + 61 * rest.length ≤ 6000
theorem pa_new {rest : List Token} (h : rest.length ≤ 80) : PA newP [] rest := ⟨1, 0, vp_new, trivial, by omega⟩
theorem pa_turn {p : Pend} {s : List Pend} {tk : Token} {r : List Token} (h : PA p s (tk :: r)) : PA { p with turned := !p.turned } s r := by
  obtain ⟨a, b, x, y, l⟩ := h
  rw [List.length_cons] at l
  exact ⟨a, b, vp_turn x _, y, by omega⟩
theorem pa_open {p : Pend} {s : List Pend} {tk : Token} {r : List Token} (h : PA p s (tk :: r)) : PA newP (p :: s) r := by
  obtain ⟨a, b, x, y, l⟩ := h
  rw [List.length_cons] at l
  exact ⟨1, a + b, vp_new, ⟨a, b, x, y, by omega⟩, by omega⟩
theorem pt_put {p : Pend} {s : List Pend} {tk : Token} {r : List Token} {v : Fr} {t : Top} (h : PA p s (tk :: r)) (hv : Red v) (bv : Bd 60 v) (e : put p v = .ok t) : PT t s r := by
  obtain ⟨a, b, x, y, l⟩ := h
  rw [List.length_cons] at l
  exact ⟨a + 60, b, put_vt x hv bv e, y, by omega⟩
theorem pt_close {p : Pend} {s : List Pend} {tk : Token} {r : List Token} {t t' : Top} (h : PT t (p :: s) (tk :: r)) (e : put p t.value = .ok t') : PT t' s r := by
  obtain ⟨a, b, x, ⟨c, d, y, z, l2⟩, l⟩ := h
  rw [List.length_cons] at l
  have v := value_ok x
  exact ⟨c + (a + 1), d, put_vt y v.1 v.2 e, z, by omega⟩
theorem pa_op {s : List Pend} {tk : Token} {r : List Token} {t : Top} {b col : Nat} (h : PT t s (tk :: r)) : PA (opd t b col) s r := by
  obtain ⟨a, c, x, y, l⟩ := h
  rw [List.length_cons] at l
  exact ⟨a + 1, c, opd_vp x, y, by omega⟩
end Qu
set_option Elab.async false
set_option maxHeartbeats 4000000
namespace Qu
open Lrx9 (Token Fault Model Entry Station)
/-! ### entries: a table as it was filled, and the ordered list -/
def code (e : Entry) : Nat := ((e.station * 4 + e.class_) * 8 + e.toStation) * 4 + e.toClass
structure Sm (e : Entry) : Prop where
  a : e.station < 8
  b : e.class_ < 4
  c : e.toStation < 8
  d : e.toClass < 4
theorem Sm.lt {e : Entry} (h : Sm e) : code e < 1024 := by
  have := h.a; have := h.b; have := h.c; have := h.d
  unfold code; omega
theorem same_iff {x y : Entry} (hx : Sm x) (hy : Sm y) : Lrx9.samePlace x y = true ↔ code x = code y := by
  have := hx.a; have := hx.b; have := hx.c; have := hx.d
  have := hy.a; have := hy.b; have := hy.c; have := hy.d
  unfold Lrx9.samePlace code
  simp only [Bool.and_eq_true, beq_iff_eq]
  omega
theorem before_iff {x y : Entry} (hx : Sm x) (hy : Sm y) : Lrx9.isBefore x y = true ↔ code x < code y := by
  have := hx.a; have := hx.b; have := hx.c; have := hx.d
  have := hy.a; have := hy.b; have := hy.c; have := hy.d
  unfold Lrx9.isBefore code
  simp only [decide_eq_true_eq]
  omega
theorem same_refl (x : Entry) : Lrx9.samePlace x x = true := by simp [Lrx9.samePlace]
/-- ordered, within bounds -/
structure Ord (l : List Entry) : Prop where
  so : l.Pairwise fun a b => code a < code b
  sm : ∀ e ∈ l, Sm e
theorem ord_len : ∀ (l : List Entry) (lo hi : Nat), (l.Pairwise fun a b => code a < code b) → (∀ e ∈ l, lo ≤ code e ∧ code e < hi) → l.length ≤ hi - lo
  | [], lo, hi, _, _ => Nat.zero_le _
  | x :: r, lo, hi, h, b => by
    have hp := List.pairwise_cons.mp h
    have b0 := b x List.mem_cons_self
    have := ord_len r (code x + 1) hi hp.2 fun e he => ⟨hp.1 e he, (b e (List.mem_cons_of_mem _ he)).2⟩
    rw [List.length_cons]
    omega
theorem mem_of_filter {α : Type} {p : α → Bool} {l : List α} {x : α} (h : x ∈ l.filter p) : x ∈ l := (List.mem_filter.mp h).1
theorem Ord.len {l : List Entry} (h : Ord l) : l.length ≤ 1024 := ord_len l 0 1024 h.so fun e he => ⟨Nat.zero_le _, (h.sm e he).lt⟩
theorem Ord.filter {l : List Entry} (h : Ord l) (p : Entry → Bool) : Ord (l.filter p) := ⟨h.so.filter p, fun e he => h.sm e (mem_of_filter he)⟩
theorem put_mem {e x : Entry} {l : List Entry} (h : x ∈ Lrx9.putEntry e l) : (x = e ∧ e.value ≠ Lrx1.zero) ∨ x ∈ l := by
  unfold Lrx9.putEntry at h
  simp only at h
  split at h
  · exact .inr (mem_of_filter h)
  · rename_i nz
    rcases List.mem_append.mp h with h | h
    · rcases List.mem_append.mp h with h | h
      · exact .inr (mem_of_filter (mem_of_filter h))
      · rw [List.mem_singleton] at h
        exact .inl ⟨h, nz⟩
    · exact .inr (mem_of_filter (mem_of_filter h))
theorem put_ord {e : Entry} {l : List Entry} (he : Sm e) (h : Ord l) : Ord (Lrx9.putEntry e l) := by
  refine ⟨?_, fun x hx => ?_⟩
  · unfold Lrx9.putEntry
    simp only
    split
    · exact (h.filter _).so
    · have ho := h.filter fun other => !Lrx9.samePlace other e
      refine List.pairwise_append.mpr ⟨List.pairwise_append.mpr ⟨(ho.filter _).so, List.pairwise_singleton _ _, fun a ha b hb => ?_⟩, (ho.filter _).so, fun a ha b hb => ?_⟩
      · rw [List.mem_singleton] at hb
        subst hb
        exact (before_iff (ho.sm a (mem_of_filter ha)) he).mp (List.mem_filter.mp ha).2
      · obtain ⟨hb1, hb2⟩ := List.mem_filter.mp hb
        obtain ⟨hb3, hb4⟩ := List.mem_filter.mp hb1
        have sb := h.sm b hb3
        have nlt : ¬ code b < code e := fun z => by
          rw [(before_iff sb he).mpr z] at hb2
          cases hb2
        have nsame : ¬ code b = code e := fun z => by
          rw [(same_iff sb he).mpr z] at hb4
          cases hb4
        rcases List.mem_append.mp ha with ha | ha
        · have := (before_iff (ho.sm a (mem_of_filter ha)) he).mp (List.mem_filter.mp ha).2
          omega
        · rw [List.mem_singleton] at ha
          subst ha
          omega
  · rcases put_mem hx with ⟨rfl, _⟩ | hx
    · exact he
    · exact h.sm x hx
/-- how the table changes -/
def setE (e : Entry) (es : List Entry) : List Entry := if (es.any fun x => Lrx9.samePlace x e) = true then es.map (fun x => if Lrx9.samePlace x e = true then e else x) else es ++ [e]
def cutE (e : Entry) (es : List Entry) : List Entry := es.filter fun x => !Lrx9.samePlace x e
def putT (e : Entry) (es : List Entry) : List Entry := if e.value = Lrx1.zero then cutE e es else setE e es
theorem filter_perm {l : List Entry} (p : Entry → Bool) : ((l.filter p) ++ (l.filter fun x => !p x)).Perm l := by
  induction l with
  | nil => exact List.Perm.refl _
  | cons x r ih =>
    cases c : p x with
    | true =>
      rw [List.filter_cons_of_pos c, List.filter_cons_of_neg (by simp [c])]
      exact List.Perm.cons x ih
    | false =>
      rw [List.filter_cons_of_neg (by simp [c]), List.filter_cons_of_pos (by simp [c])]
      exact (List.perm_middle).trans (List.Perm.cons x ih)
theorem cut_of_none {e : Entry} {es : List Entry} (h : ¬ (es.any fun x => Lrx9.samePlace x e) = true) : cutE e es = es := by
  unfold cutE
  refine List.filter_eq_self.mpr fun x hx => ?_
  cases c : Lrx9.samePlace x e with
  | false => rfl
  | true => exact absurd (List.any_eq_true.mpr ⟨x, hx, c⟩) h
theorem set_perm {e : Entry} (he : Sm e) : ∀ {es : List Entry}, (es.map code).Nodup → (∀ x ∈ es, Sm x) → (setE e es).Perm (cutE e es ++ [e])
  | [], _, _ => by simp [setE, cutE]
  | x :: r, nd, sm => by
    have nd' := List.nodup_cons.mp (show (code x :: r.map code).Nodup from nd)
    have ih := set_perm he nd'.2 fun y hy => sm y (List.mem_cons_of_mem _ hy)
    cases c : Lrx9.samePlace x e with
    | true =>
      have hx := (same_iff (sm x List.mem_cons_self) he).mp c
      have nr : ¬ (r.any fun y => Lrx9.samePlace y e) = true := fun z => by
        obtain ⟨y, hy, cy⟩ := List.any_eq_true.mp z
        have := (same_iff (sm y (List.mem_cons_of_mem _ hy)) he).mp cy
        exact nd'.1 (by rw [hx, ← this]; exact List.mem_map_of_mem hy)
      have em : r.map (fun x => if Lrx9.samePlace x e = true then e else x) = r := by
        have : r.map (fun x => if Lrx9.samePlace x e = true then e else x) = r.map id := List.map_congr_left fun y hy => by
          have : ¬ Lrx9.samePlace y e = true := fun z => nr (List.any_eq_true.mpr ⟨y, hy, z⟩)
          rw [if_neg this]
          rfl
        rw [this, List.map_id]
      unfold setE
      rw [if_pos (by rw [List.any_cons, c]; rfl), List.map_cons, if_pos c, em]
      have ec : cutE e (x :: r) = r := by
        unfold cutE
        rw [List.filter_cons_of_neg (by simp [c])]
        exact cut_of_none nr
      rw [ec]
      exact (List.perm_append_singleton e r).symm
    | false =>
      have e1 : setE e (x :: r) = x :: setE e r := by
        unfold setE
        rw [List.any_cons, c, Bool.false_or]
        split
        · rw [List.map_cons, if_neg (by rw [c]; exact Bool.false_ne_true)]
        · rfl
      have e2 : cutE e (x :: r) = x :: cutE e r := by
        unfold cutE
        rw [List.filter_cons_of_pos (by simp [c])]
      rw [e1, e2]
      exact List.Perm.cons x ih
theorem put_perm {e : Entry} {es l : List Entry} (he : Sm e) (h : Ord l) (p : es.Perm l) : (putT e es).Perm (Lrx9.putEntry e l) := by
  have nd : (es.map code).Nodup := by
    refine (p.map code).nodup_iff.mpr ?_
    have : (l.map code).Pairwise (· < ·) := List.pairwise_map.mpr h.so
    exact this.imp fun hlt => Nat.ne_of_lt hlt
  have sm : ∀ x ∈ es, Sm x := fun x hx => h.sm x (p.subset hx)
  unfold putT Lrx9.putEntry
  simp only
  split
  · exact p.filter _
  · refine (set_perm he nd sm).trans ?_
    have pc : (cutE e es).Perm (l.filter fun other => !Lrx9.samePlace other e) := p.filter _
    generalize (l.filter fun other => !Lrx9.samePlace other e) = o at *
    refine (pc.append_right [e]).trans ?_
    have f := filter_perm (l := o) fun other => Lrx9.isBefore other e
    refine (f.symm.append_right [e]).trans ?_
    rw [List.append_assoc, List.append_assoc]
    exact List.Perm.append_left _ List.perm_append_comm
/-! ### sound models -/
structure NmOk (n : List Nat) : Prop where
  by_ : ∀ b ∈ n, Lrx9.isNameByte b = true
  ne : n ≠ []
  len : n.length ≤ 12
  kw : Lrx9.keywords.contains n = false
structure VOk (q : Fr) : Prop where
  red : Red q
  short : Lrx9.isShort q = true
  nz : q ≠ Lrx1.zero
/-- the places of a kind -/
def PlR (ns nc : Nat) (e : Entry) : Prop := e.station < ns ∧ e.class_ < nc ∧ e.toStation = 0 ∧ e.toClass = 0
def RoR (ns nc : Nat) (e : Entry) : Prop := e.station < ns ∧ e.class_ < nc ∧ e.toStation < ns ∧ e.toClass < nc
def PoR (nc : Nat) (e : Entry) : Prop := e.station = 0 ∧ e.class_ < nc ∧ e.toStation = 0 ∧ e.toClass = 0
structure EnOk (P : Entry → Prop) (l : List Entry) : Prop where
  so : l.Pairwise fun a b => code a < code b
  rg : ∀ e ∈ l, P e
  vs : ∀ e ∈ l, VOk e.value
structure Wf (M : Model) : Prop where
  nco : M.constants.length ≤ 16
  ncl : M.classes.length ≤ 4
  nst : M.stations.length ≤ 8
  co : ∀ e ∈ M.constants, (Red e.2 ∧ Lrx9.isShort e.2 = true) ∧ NmOk e.1
  cl : ∀ n ∈ M.classes, NmOk n
  st : ∀ s ∈ M.stations, NmOk s.name ∧ s.discipline < 4 ∧ s.servers ≤ 1000 ∧ s.capacity ≤ 1000
  sv : EnOk (PlR M.stations.length M.classes.length) M.services
  ar : EnOk (PlR M.stations.length M.classes.length) M.arrivals
  ro : EnOk (RoR M.stations.length M.classes.length) M.routes
  le : EnOk (PlR M.stations.length M.classes.length) M.leaving
  po : EnOk (PoR M.classes.length) M.populations
  pv : ∀ e ∈ M.populations, e.value.den = 1 ∧ 0 ≤ e.value.num ∧ e.value.num ≤ 1000
theorem wf_empty : Wf Lrx9.empty := by
  refine ⟨by decide, by decide, by decide, ?_, ?_, ?_, ⟨List.Pairwise.nil, ?_, ?_⟩, ⟨List.Pairwise.nil, ?_, ?_⟩, ⟨List.Pairwise.nil, ?_, ?_⟩, ⟨List.Pairwise.nil, ?_, ?_⟩, ⟨List.Pairwise.nil, ?_, ?_⟩, ?_⟩ <;> intro x hx <;> cases hx
theorem pl_sm {ns nc : Nat} {e : Entry} (h : PlR ns nc e) (a : ns ≤ 8) (b : nc ≤ 4) : Sm e := by
  obtain ⟨h1, h2, h3, h4⟩ := h
  exact ⟨by omega, by omega, by omega, by omega⟩
theorem ro_sm {ns nc : Nat} {e : Entry} (h : RoR ns nc e) (a : ns ≤ 8) (b : nc ≤ 4) : Sm e := by
  obtain ⟨h1, h2, h3, h4⟩ := h
  exact ⟨by omega, by omega, by omega, by omega⟩
theorem po_sm {nc : Nat} {e : Entry} (h : PoR nc e) (b : nc ≤ 4) : Sm e := by
  obtain ⟨h1, h2, h3, h4⟩ := h
  exact ⟨by omega, by omega, by omega, by omega⟩
theorem EnOk.ord {P : Entry → Prop} {l : List Entry} (h : EnOk P l) (k : ∀ e, P e → Sm e) : Ord l := ⟨h.so, fun e he => k e (h.rg e he)⟩
theorem EnOk.put {P : Entry → Prop} {l : List Entry} {e : Entry} (h : EnOk P l) (k : ∀ e, P e → Sm e) (he : P e) (hv : e.value ≠ Lrx1.zero → VOk e.value) : EnOk P (Lrx9.putEntry e l) :=
  ⟨(put_ord (k e he) (h.ord k)).so, fun x hx => (put_mem hx).elim (fun z => z.1 ▸ he) (h.rg x), fun x hx => (put_mem hx).elim (fun z => z.1 ▸ hv z.2) (h.vs x)⟩
theorem EnOk.up {P P' : Entry → Prop} {l : List Entry} (h : EnOk P l) (k : ∀ e, P e → P' e) : EnOk P' l := ⟨h.so, fun e he => k e (h.rg e he), h.vs⟩
theorem short_bd {q : Fr} (h : Lrx9.isShort q = true) : Bd 30 q := by
  unfold Lrx9.isShort at h
  have h' := of_decide_eq_true h
  have : (10 : Nat) ^ 9 < 2 ^ 30 := by decide
  exact ⟨by omega, by omega⟩
theorem Wf.fine {M : Model} (h : Wf M) {ts : List Token} (ht : ∀ t ∈ ts, TokOk t) : Fine M ts :=
  ⟨fun e he => ⟨(h.co e he).1.1, (short_bd (h.co e he).1.2).mono (by decide)⟩, fun t hm => ⟨(ht t hm).kind, fun k => ⟨((ht t hm).red k).1, ((ht t hm).red k).2.mono (by decide)⟩⟩⟩
end Qu
set_option Elab.async false
set_option maxHeartbeats 4000000
namespace Qu
open Lrx9 (Token Fault Model Entry Station)
/-! ### statements by their kinds; models stay sound -/
def stLet (M : Model) (rest : List Token) (len col : Nat) : Except Fault Model := match Lrx9.newName M rest len with
  | .error f => .error f
  | .ok (name, more) => if (!Lrx9.isSymbolAt more 61) = true then .error ⟨Lrx9.columnOf more len, 3⟩
    else match Lrx9.lastValue M (more.drop 1) len fun _ => true with
    | .error f => .error f
    | .ok value => if Lrx9.maxConstants ≤ M.constants.length then .error ⟨col, 8⟩ else .ok { M with constants := M.constants ++ [(name, value)] }
def stClass (M : Model) (rest : List Token) (len col : Nat) : Except Fault Model := match Lrx9.newName M rest len with
  | .error f => .error f
  | .ok (name, more) => match Lrx9.isNothingLeft more len with
    | .error f => .error f
    | .ok _ => if Lrx9.maxClasses ≤ M.classes.length then .error ⟨col, 8⟩ else .ok { M with classes := M.classes ++ [name] }
def stStation (M : Model) (rest : List Token) (len col : Nat) : Except Fault Model := match Lrx9.newName M rest len with
  | .error f => .error f
  | .ok (name, more) => match (List.range 4).find? fun d => Lrx9.isKeywordAt more (8 + d) with
    | none => .error ⟨Lrx9.columnOf more len, 3⟩
    | some d => match Lrx9.stationOptions M len ⟨name, d, 1, 0⟩ (more.drop 1) with
      | .error f => .error f
      | .ok (station, after) => match Lrx9.isNothingLeft after len with
        | .error f => .error f
        | .ok _ => if Lrx9.maxStations ≤ M.stations.length then .error ⟨col, 8⟩ else .ok { M with stations := M.stations ++ [station] }
def stPut (f : List Entry → Model) : Except Fault (List Entry) → Except Fault Model
  | .error e => .error e
  | .ok l => .ok (f l)
def stRoute (M : Model) (am : Bool) (rest : List Token) (len col : Nat) : Except Fault (List Entry) := match Lrx9.readPlace M rest len with
  | .error f => .error f
  | .ok ((i, r), more) => match Lrx9.readPlace M more len with
    | .error f => .error f
    | .ok ((j, s), after) => match Lrx9.lastValue M after len Lrx9.isProbability with
      | .error f => .error f
      | .ok value => Lrx9.addEntry am col ⟨i, r, j, s, value⟩ M.routes
def stPop (M : Model) (am : Bool) (rest : List Token) (len col : Nat) : Except Fault (List Entry) := match Lrx9.readClass M rest len with
  | .error f => .error f
  | .ok (r, more) => match Lrx9.lastValue M more len (Lrx9.isInteger 0 1000) with
    | .error f => .error f
    | .ok value => Lrx9.addEntry am col ⟨0, r, 0, 0, value⟩ M.populations
def stDo (M : Model) (am : Bool) (rest : List Token) (len col : Nat) : Nat → Except Fault Model
  | 0 => stLet M rest len col
  | 1 => stClass M rest len col
  | 2 => stStation M rest len col
  | 3 => stPut (fun l => { M with services := l }) (Lrx9.placeStatement M am len col rest M.services Lrx9.isRate)
  | 4 => stPut (fun l => { M with arrivals := l }) (Lrx9.placeStatement M am len col rest M.arrivals Lrx9.isArrival)
  | 5 => stPut (fun l => { M with routes := l }) (stRoute M am rest len col)
  | 6 => stPut (fun l => { M with leaving := l }) (Lrx9.placeStatement M am len col rest M.leaving Lrx9.isProbability)
  | _ => stPut (fun l => { M with populations := l }) (stPop M am rest len col)
theorem statement_do (M : Model) (am : Bool) (len : Nat) (first : Token) (rest : List Token) : Lrx9.statement M am len (first :: rest) =
    if first.kind ≠ 0 then .error ⟨first.column, 3⟩ else match (List.range 8).find? fun k => Lrx9.keyword k == first.text with
      | none => .error ⟨first.column, 3⟩
      | some k => stDo M am rest len first.column k := by
  unfold Lrx9.statement
  simp only
  split
  · rfl
  · generalize (List.range 8).find? (fun k => Lrx9.keyword k == first.text) = o
    cases o with
    | none => rfl
    | some k =>
      match k with
      | 0 => simp only [stDo, stLet]; rfl
      | 1 => simp only [stDo, stClass]; rfl
      | 2 => simp only [stDo, stStation]; rfl
      | 3 => simp only [stDo]; cases Lrx9.placeStatement M am len first.column rest M.services Lrx9.isRate <;> rfl
      | 4 => simp only [stDo]; cases Lrx9.placeStatement M am len first.column rest M.arrivals Lrx9.isArrival <;> rfl
      | 5 =>
        simp only [stDo, stRoute]
        cases Lrx9.readPlace M rest len with
        | error f => rfl
        | ok y =>
          simp only
          cases Lrx9.readPlace M y.2 len with
          | error f => rfl
          | ok y2 =>
            simp only
            cases Lrx9.lastValue M y2.2 len Lrx9.isProbability with
            | error f => rfl
            | ok v =>
              simp only
              cases Lrx9.addEntry am first.column ⟨y.1.1, y.1.2, y2.1.1, y2.1.2, v⟩ M.routes <;> rfl
      | 6 => simp only [stDo]; cases Lrx9.placeStatement M am len first.column rest M.leaving Lrx9.isProbability <;> rfl
      | k + 7 =>
        simp only [stDo, stPop]
        cases Lrx9.readClass M rest len with
        | error f => rfl
        | ok y =>
          simp only
          cases Lrx9.lastValue M y.2 len (Lrx9.isInteger 0 1000) with
          | error f => rfl
          | ok v =>
            simp only
            cases Lrx9.addEntry am first.column ⟨0, y.1, 0, 0, v⟩ M.populations <;> rfl
/-- the rest is a rest -/
def Sub (a b : List Token) : Prop := ∀ t ∈ a, t ∈ b
theorem readName_ok {rest more : List Token} {len : Nat} {t : Token} (h : Lrx9.readName rest len = .ok (t, more)) : t ∈ rest ∧ t.kind = 0 ∧ Sub more rest := by
  cases rest with
  | nil => simp [Lrx9.readName] at h
  | cons x r =>
    simp only [Lrx9.readName] at h
    split at h
    · cases h
    · rename_i k
      cases h
      exact ⟨List.mem_cons_self, by simpa using k, fun y hy => List.mem_cons_of_mem _ hy⟩
theorem newName_ok {M : Model} {rest more : List Token} {len : Nat} {n : List Nat} (ht : ∀ t ∈ rest, TokOk t) (h : Lrx9.newName M rest len = .ok (n, more)) : NmOk n ∧ Sub more rest := by
  unfold Lrx9.newName at h
  split at h
  · cases h
  · rename_i t m e
    obtain ⟨h1, h2, h3⟩ := readName_ok e
    split at h
    · cases h
    · rename_i d
      cases h
      have tk := ht t h1
      unfold Lrx9.isDefined at d
      have d' : (Lrx9.keywords.contains t.text || ((Lrx9.constantOf M t.text).isSome || ((Lrx9.classOf M t.text).isSome || (Lrx9.stationOf M t.text).isSome))) = false := by simpa using d
      exact ⟨⟨(tk.nm h2).1, (tk.nm h2).2, tk.len, (Bool.or_eq_false_iff.mp d').1⟩, h3⟩
theorem lastValue_ok {M : Model} {rest : List Token} {len : Nat} {test : Fr → Bool} {v : Fr} (f : Fine M rest) (h : Lrx9.lastValue M rest len test = .ok v) : Red v ∧ Lrx9.isShort v = true ∧ test v = true := by
  unfold Lrx9.lastValue at h
  split at h
  · cases h
  · rename_i w m e
    split at h
    · cases h
    · split at h
      · rename_i c
        cases h
        have c' := Bool.and_eq_true_iff.mp c
        exact ⟨(evaluate_left f.sound e).red, c'.1, c'.2⟩
      · cases h
theorem station_ok {M : Model} {rest more : List Token} {len i : Nat} (h : Lrx9.readStation M rest len = .ok (i, more)) : i < M.stations.length ∧ Sub more rest := by
  unfold Lrx9.readStation at h
  split at h
  · cases h
  · rename_i t m e
    obtain ⟨-, -, h3⟩ := readName_ok e
    split at h
    · cases h
    · rename_i j c
      cases h
      unfold Lrx9.stationOf at c
      exact ⟨(List.findIdx?_eq_some_iff_getElem.mp c).1, h3⟩
theorem class_ok {M : Model} {rest more : List Token} {len i : Nat} (h : Lrx9.readClass M rest len = .ok (i, more)) : i < M.classes.length ∧ Sub more rest := by
  unfold Lrx9.readClass at h
  split at h
  · cases h
  · rename_i t m e
    obtain ⟨-, -, h3⟩ := readName_ok e
    split at h
    · cases h
    · rename_i j c
      cases h
      unfold Lrx9.classOf at c
      exact ⟨(List.findIdx?_eq_some_iff_getElem.mp c).1, h3⟩
theorem place_ok {M : Model} {rest more : List Token} {len i r : Nat} (h : Lrx9.readPlace M rest len = .ok ((i, r), more)) : i < M.stations.length ∧ r < M.classes.length ∧ Sub more rest := by
  unfold Lrx9.readPlace at h
  split at h
  · cases h
  · rename_i j m e
    obtain ⟨h1, h2⟩ := station_ok e
    split at h
    · cases h
    · rename_i s m2 e2
      obtain ⟨h3, h4⟩ := class_ok e2
      cases h
      exact ⟨h1, h3, fun t ht => h2 t (h4 t ht)⟩
theorem add_ok {am : Bool} {col : Nat} {e : Entry} {l l' : List Entry} (h : Lrx9.addEntry am col e l = .ok l') : l' = Lrx9.putEntry e l := by
  unfold Lrx9.addEntry at h
  split at h
  · cases h
  · cases h; rfl
theorem Wf.grow {ns nc ns' nc' : Nat} (h1 : ns ≤ ns') (h2 : nc ≤ nc') : (∀ e, PlR ns nc e → PlR ns' nc' e) ∧ (∀ e, RoR ns nc e → RoR ns' nc' e) ∧ (∀ e, PoR nc e → PoR nc' e) :=
  ⟨fun e ⟨a, b, c, d⟩ => ⟨by omega, by omega, c, d⟩, fun e ⟨a, b, c, d⟩ => ⟨by omega, by omega, by omega, by omega⟩, fun e ⟨a, b, c, d⟩ => ⟨a, by omega, c, d⟩⟩
theorem place_put {M : Model} {am : Bool} {len col : Nat} {rest : List Token} {l l' : List Entry} {test : Fr → Bool} (wf : Wf M) (ht : ∀ t ∈ rest, TokOk t) (h : Lrx9.placeStatement M am len col rest l test = .ok l') (ok : EnOk (PlR M.stations.length M.classes.length) l) :
    EnOk (PlR M.stations.length M.classes.length) l' := by
  unfold Lrx9.placeStatement at h
  split at h
  · cases h
  · rename_i i r m e
    obtain ⟨h1, h2, h3⟩ := place_ok e
    split at h
    · cases h
    · rename_i v e2
      obtain ⟨h4, h5, h6⟩ := lastValue_ok (wf.fine fun t hm => ht t (h3 t hm)) e2
      rw [add_ok h]
      exact ok.put (fun e he => pl_sm he wf.nst wf.ncl) ⟨h1, h2, rfl, rfl⟩ fun nz => ⟨h4, h5, nz⟩
theorem let_wf {M M' : Model} {rest : List Token} {len col : Nat} (wf : Wf M) (ht : ∀ t ∈ rest, TokOk t) (h : stLet M rest len col = .ok M') : Wf M' := by
  unfold stLet at h
  split at h
  · cases h
  · rename_i n m e
    obtain ⟨h1, h2⟩ := newName_ok ht e
    split at h
    · cases h
    · split at h
      · cases h
      · rename_i v e2
        obtain ⟨h4, h5, h6⟩ := lastValue_ok (wf.fine fun t hm => ht t (h2 t (List.mem_of_mem_drop hm))) e2
        split at h
        · cases h
        · rename_i c
          cases h
          refine ⟨?_, wf.ncl, wf.nst, ?_, wf.cl, wf.st, wf.sv, wf.ar, wf.ro, wf.le, wf.po, wf.pv⟩
          · simp only [Lrx9.maxConstants] at c
            simp
            omega
          · intro x hx
            rcases List.mem_append.mp hx with hx | hx
            · exact wf.co x hx
            · rw [List.mem_singleton] at hx
              subst hx
              exact ⟨⟨h4, h5⟩, h1⟩
theorem class_wf {M M' : Model} {rest : List Token} {len col : Nat} (wf : Wf M) (ht : ∀ t ∈ rest, TokOk t) (h : stClass M rest len col = .ok M') : Wf M' := by
  unfold stClass at h
  split at h
  · cases h
  · rename_i n m e
    obtain ⟨h1, h2⟩ := newName_ok ht e
    split at h
    · cases h
    · split at h
      · cases h
      · rename_i c
        cases h
        simp only [Lrx9.maxClasses] at c
        have g := Wf.grow (ns := M.stations.length) (ns' := M.stations.length) (nc := M.classes.length) (nc' := (M.classes ++ [n]).length) (Nat.le_refl _) (by simp)
        refine ⟨wf.nco, ?_, wf.nst, wf.co, ?_, wf.st, wf.sv.up g.1, wf.ar.up g.1, wf.ro.up g.2.1, wf.le.up g.1, wf.po.up g.2.2, wf.pv⟩
        · simp
          omega
        · intro x hx
          rcases List.mem_append.mp hx with hx | hx
          · exact wf.cl x hx
          · rw [List.mem_singleton] at hx
            subst hx
            exact h1
theorem options_ok {M : Model} {len d : Nat} {n : List Nat} {rest after : List Token} {s : Station} (h : Lrx9.stationOptions M len ⟨n, d, 1, 0⟩ rest = .ok (s, after)) : s.name = n ∧ s.discipline = d ∧ s.servers ≤ 1000 ∧ s.capacity ≤ 1000 := by
  unfold Lrx9.stationOptions at h
  simp only at h
  split at h
  · cases h
  · rename_i ws m e
    have hs : ws.name = n ∧ ws.discipline = d ∧ ws.servers ≤ 1000 ∧ ws.capacity ≤ 1000 := by
      split at e
      · split at e
        · cases e
        · rename_i v m2 e2
          split at e
          · rename_i c
            cases e
            have c1 := (Bool.and_eq_true_iff.mp c).1
            unfold Lrx9.isInteger at c1
            have c2 := of_decide_eq_true (Bool.and_eq_true_iff.mp c1).2
            refine ⟨rfl, rfl, ?_, Nat.zero_le _⟩
            simp only
            omega
          · cases e
      · cases e
        exact ⟨rfl, rfl, by simp, by simp⟩
    split at h
    · split at h
      · cases h
      · rename_i v m2 e2
        split at h
        · rename_i c
          cases h
          unfold Lrx9.isInteger at c
          have c2 := of_decide_eq_true (Bool.and_eq_true_iff.mp c).2
          refine ⟨hs.1, hs.2.1, hs.2.2.1, ?_⟩
          simp only
          omega
        · cases h
    · cases h
      exact hs
theorem station_wf {M M' : Model} {rest : List Token} {len col : Nat} (wf : Wf M) (ht : ∀ t ∈ rest, TokOk t) (h : stStation M rest len col = .ok M') : Wf M' := by
  unfold stStation at h
  split at h
  · cases h
  · rename_i n m e
    obtain ⟨h1, h2⟩ := newName_ok ht e
    split at h
    · cases h
    · rename_i d ed
      have d4 : d < 4 := List.mem_range.mp (List.mem_of_find?_eq_some ed)
      split at h
      · cases h
      · rename_i s af eo
        obtain ⟨o1, o2, o3, o4⟩ := options_ok eo
        split at h
        · cases h
        · split at h
          · cases h
          · rename_i c
            cases h
            simp only [Lrx9.maxStations] at c
            have g := Wf.grow (ns := M.stations.length) (ns' := (M.stations ++ [s]).length) (nc := M.classes.length) (nc' := M.classes.length) (by simp) (Nat.le_refl _)
            refine ⟨wf.nco, wf.ncl, ?_, wf.co, wf.cl, ?_, wf.sv.up g.1, wf.ar.up g.1, wf.ro.up g.2.1, wf.le.up g.1, wf.po.up g.2.2, wf.pv⟩
            · simp
              omega
            · intro x hx
              rcases List.mem_append.mp hx with hx | hx
              · exact wf.st x hx
              · rw [List.mem_singleton] at hx
                subst hx
                exact ⟨o1 ▸ h1, by omega, o3, o4⟩
theorem statement_wf {M M' : Model} {am : Bool} {len : Nat} {line : List Token} (wf : Wf M) (ht : ∀ t ∈ line, TokOk t) (h : Lrx9.statement M am len line = .ok M') : Wf M' := by
  cases line with
  | nil => simp [Lrx9.statement] at h; exact h ▸ wf
  | cons first rest =>
    have ht' : ∀ t ∈ rest, TokOk t := fun t hm => ht t (List.mem_cons_of_mem _ hm)
    rw [statement_do] at h
    split at h
    · cases h
    · split at h
      · cases h
      · rename_i k _
        match k with
        | 0 => exact let_wf wf ht' h
        | 1 => exact class_wf wf ht' h
        | 2 => exact station_wf wf ht' h
        | 3 =>
          simp only [stDo] at h
          cases e : Lrx9.placeStatement M am len first.column rest M.services Lrx9.isRate with
          | error f => rw [e] at h; cases h
          | ok l =>
            rw [e] at h
            cases h
            exact ⟨wf.nco, wf.ncl, wf.nst, wf.co, wf.cl, wf.st, place_put (M := M) wf ht' e wf.sv, wf.ar, wf.ro, wf.le, wf.po, wf.pv⟩
        | 4 =>
          simp only [stDo] at h
          cases e : Lrx9.placeStatement M am len first.column rest M.arrivals Lrx9.isArrival with
          | error f => rw [e] at h; cases h
          | ok l =>
            rw [e] at h
            cases h
            exact ⟨wf.nco, wf.ncl, wf.nst, wf.co, wf.cl, wf.st, wf.sv, place_put (M := M) wf ht' e wf.ar, wf.ro, wf.le, wf.po, wf.pv⟩
        | 5 =>
          simp only [stDo] at h
          cases e : stRoute M am rest len first.column with
          | error f => rw [e] at h; cases h
          | ok l =>
            rw [e] at h
            cases h
            refine ⟨wf.nco, wf.ncl, wf.nst, wf.co, wf.cl, wf.st, wf.sv, wf.ar, ?_, wf.le, wf.po, wf.pv⟩
            unfold stRoute at e
            split at e
            · cases e
            · rename_i i r m e1
              obtain ⟨h1, h2, h3⟩ := place_ok e1
              split at e
              · cases e
              · rename_i j s m2 e2
                obtain ⟨h4, h5, h6⟩ := place_ok e2
                split at e
                · cases e
                · rename_i v e3
                  obtain ⟨h7, h8, h9⟩ := lastValue_ok (wf.fine fun t hm => ht' t (h3 t (h6 t hm))) e3
                  rw [add_ok e]
                  exact wf.ro.put (fun e he => ro_sm he wf.nst wf.ncl) ⟨h1, h2, h4, h5⟩ fun nz => ⟨h7, h8, nz⟩
        | 6 =>
          simp only [stDo] at h
          cases e : Lrx9.placeStatement M am len first.column rest M.leaving Lrx9.isProbability with
          | error f => rw [e] at h; cases h
          | ok l =>
            rw [e] at h
            cases h
            exact ⟨wf.nco, wf.ncl, wf.nst, wf.co, wf.cl, wf.st, wf.sv, wf.ar, wf.ro, place_put (M := M) wf ht' e wf.le, wf.po, wf.pv⟩
        | k + 7 =>
          simp only [stDo] at h
          cases e : stPop M am rest len first.column with
          | error f => rw [e] at h; cases h
          | ok l =>
            rw [e] at h
            cases h
            unfold stPop at e
            split at e
            · cases e
            · rename_i r m e1
              obtain ⟨h1, h3⟩ := class_ok e1
              split at e
              · cases e
              · rename_i v e3
                obtain ⟨h7, h8, h9⟩ := lastValue_ok (wf.fine fun t hm => ht' t (h3 t hm)) e3
                rw [add_ok e]
                refine ⟨wf.nco, wf.ncl, wf.nst, wf.co, wf.cl, wf.st, wf.sv, wf.ar, wf.ro, wf.le, ?_, fun x hx => ?_⟩
                · exact wf.po.put (fun e he => po_sm he wf.ncl) ⟨rfl, h1, rfl, rfl⟩ fun nz => ⟨h7, h8, nz⟩
                · rcases put_mem hx with ⟨rfl, _⟩ | hx
                  · unfold Lrx9.isInteger at h9
                    have c1 := Bool.and_eq_true_iff.mp h9
                    have c2 := of_decide_eq_true c1.2
                    exact ⟨by simpa using c1.1, by simpa using c2.1, by simpa using c2.2⟩
                  · exact wf.pv x hx
end Qu
set_option Elab.async false
set_option maxHeartbeats 4000000
namespace Qu
/-! ### lines of a text -/
def splitL (text : List Nat) : List (List Nat) := text.foldr (fun (b : Nat) (lines : List (List Nat)) =>
    if b = 10 then [] :: lines else match lines with
      | [] => [[b]]
      | line :: rest => (b :: line) :: rest) [[]]
def onHead (row : List Nat) : List (List Nat) → List (List Nat)
  | [] => [row]
  | l :: r => (row ++ l) :: r
def lnStep (s : List (List Nat) × List Nat) (b : Nat) : List (List Nat) × List Nat := if b = 10 then (s.1 ++ [s.2], []) else (s.1, s.2 ++ [b])
theorem split_ne (text : List Nat) : splitL text ≠ [] := by
  cases text with
  | nil => exact List.cons_ne_nil _ _
  | cons b r =>
    unfold splitL
    rw [List.foldr_cons]
    split
    · exact List.cons_ne_nil _ _
    · split <;> exact List.cons_ne_nil _ _
theorem ln_fold : ∀ (text : List Nat) (s : List (List Nat) × List Nat), (text.foldl lnStep s).1 ++ [(text.foldl lnStep s).2] = s.1 ++ onHead s.2 (splitL text)
  | [], s => by simp [splitL, onHead]
  | b :: r, s => by
    rw [List.foldl_cons, ln_fold r]
    have e : splitL (b :: r) = if b = 10 then [] :: splitL r else match splitL r with
      | [] => [[b]]
      | line :: rest => (b :: line) :: rest := rfl
    rw [e]
    unfold lnStep
    by_cases c : b = 10
    · rw [if_pos c, if_pos c]
      cases h : splitL r with
      | nil => exact absurd h (split_ne r)
      | cons l ls => simp [onHead]
    · rw [if_neg c, if_neg c]
      cases h : splitL r with
      | nil => exact absurd h (split_ne r)
      | cons l ls => simp [onHead]
theorem lines_fold (text : List Nat) : Lrx9.linesOf text = (text.foldl lnStep ([], [])).1 ++ (if (text.foldl lnStep ([], [])).2 = [] then [] else [(text.foldl lnStep ([], [])).2]) := by
  have f := ln_fold text ([], [])
  have e0 : onHead [] (splitL text) = splitL text := by
    cases h : splitL text with
    | nil => exact absurd h (split_ne text)
    | cons l ls => rfl
  rw [List.nil_append, e0] at f
  have e : Lrx9.linesOf text = if (splitL text).getLast? = some [] then (splitL text).dropLast else splitL text := rfl
  rw [e, ← f]
  generalize (text.foldl lnStep ([], [])).1 = a
  generalize (text.foldl lnStep ([], [])).2 = b
  simp only [List.getLast?_append, List.getLast?_singleton, Option.some_or, Option.some.injEq]
  by_cases c : b = []
  · rw [if_pos c, if_pos c]
    simp
  · rw [if_neg c, if_neg c]
theorem ln_take {text : List Nat} {i b : Nat} (h : text[i]? = some b) : (text.take (i + 1)).foldl lnStep ([], []) = lnStep ((text.take i).foldl lnStep ([], [])) b := by
  obtain ⟨lt, e⟩ := List.getElem?_eq_some_iff.mp h
  rw [List.take_succ, h, List.foldl_append]
  rfl
theorem ln_len : ∀ (text : List Nat) (s : List (List Nat) × List Nat), (text.foldl lnStep s).1.length ≤ s.1.length + text.length ∧ (text.foldl lnStep s).2.length ≤ s.2.length + text.length
  | [], s => ⟨Nat.le_refl _, Nat.le_refl _⟩
  | b :: r, s => by
    have := ln_len r (lnStep s b)
    rw [List.foldl_cons, List.length_cons]
    unfold lnStep at this ⊢
    split at this
    · rename_i c
      rw [if_pos c]
      simp only [List.length_append, List.length_cons, List.length_nil] at this
      omega
    · rename_i c
      rw [if_neg c]
      simp only [List.length_append, List.length_cons, List.length_nil] at this
      omega
end Qu
set_option Elab.async false
set_option maxHeartbeats 4000000
namespace Qu
open Lrx9 (Entry Model)
/-! ### sums of places, problems -/
theorem fold_out {x : Fr} (hx : 0 < x.den) : ∀ (l : List Fr) (z : Fr), 0 < z.den → (∀ y ∈ l, 0 < y.den) → l.foldl Lrx1.add (Lrx1.add z x) = Lrx1.add (l.foldl Lrx1.add z) x
  | [], _, _, _ => rfl
  | y :: l, z, hz, h => by
    have hy := h y List.mem_cons_self
    rw [List.foldl_cons, List.foldl_cons, add_right hz hx hy]
    exact fold_out hx l _ (add_red hz hy).pos fun u m => h u (List.mem_cons_of_mem _ m)
theorem fold_perm {l m : List Fr} (p : l.Perm m) : ∀ z : Fr, 0 < z.den → (∀ y ∈ l, 0 < y.den) → l.foldl Lrx1.add z = m.foldl Lrx1.add z := by
  induction p with
  | nil => intro z _ _; rfl
  | cons x _ ih => intro z hz h; exact ih _ (add_red hz (h x List.mem_cons_self)).pos fun u m => h u (List.mem_cons_of_mem _ m)
  | swap x y l =>
    intro z hz h
    rw [List.foldl_cons, List.foldl_cons, List.foldl_cons, List.foldl_cons, add_right hz (h y List.mem_cons_self) (h x (List.mem_cons_of_mem _ List.mem_cons_self))]
  | trans p q ih1 ih2 => intro z hz h; rw [ih1 z hz h]; exact ih2 z hz fun u m => h u (p.symm.subset m)
theorem fold_bd : ∀ (l : List Fr) (z : Fr) (b : Nat), Bd b z → 0 < z.den → (∀ y ∈ l, Bd 30 y ∧ 0 < y.den) → Bd (b + 31 * l.length) (l.foldl Lrx1.add z) ∧ 0 < (l.foldl Lrx1.add z).den
  | [], _, _, hb, hz, _ => ⟨hb, hz⟩
  | y :: l, z, b, hb, hz, h => by
    have hy := h y List.mem_cons_self
    have := fold_bd l (Lrx1.add z y) (b + 30 + 1) (add_bd hb hy.1 hz hy.2) (add_red hz hy.2).pos fun u m => h u (List.mem_cons_of_mem _ m)
    rw [List.foldl_cons, List.length_cons]
    exact ⟨this.1.mono (by omega), this.2⟩
theorem val_red {P : Entry → Prop} {l : List Entry} (en : EnOk P l) (i r j s : Nat) : Red (Lrx9.valueAt l i r j s) ∧ Bd 30 (Lrx9.valueAt l i r j s) := by
  unfold Lrx9.valueAt
  cases q : l.find? (fun e => Lrx9.samePlace e ⟨i, r, j, s, Lrx1.zero⟩) with
  | none => exact ⟨zero_red, by constructor <;> decide⟩
  | some x =>
    have h := en.vs x (List.mem_of_find?_eq_some q)
    exact ⟨h.red, short_bd h.short⟩
def fromAt (i r : Nat) (e : Entry) : Bool := e.station == i && e.class_ == r
def intoAt (i r : Nat) (e : Entry) : Bool := e.toStation == i && e.toClass == r
theorem out_fold {M : Model} (wf : Wf M) {es : List Entry} (p : es.Perm M.routes) (i r : Nat) : ((es.filter (fromAt i r)).map Entry.value).foldl Lrx1.add (Lrx9.valueAt M.leaving i r 0 0) = Lrx9.outSum M i r := by
  have hl := (val_red wf.le i r 0 0).1
  have pos : ∀ y ∈ (es.filter (fromAt i r)).map Entry.value, 0 < y.den := fun y hy => by
    obtain ⟨e, he, rfl⟩ := List.mem_map.mp hy
    exact (wf.ro.vs e (p.subset (mem_of_filter he))).red.pos
  unfold Lrx9.outSum Lrx1.sum
  generalize Lrx9.valueAt M.leaving i r 0 0 = z at *
  have e1 : z = Lrx1.add Lrx1.zero z := (zero_add hl).symm
  rw [show ((es.filter (fromAt i r)).map Entry.value).foldl Lrx1.add z = ((es.filter (fromAt i r)).map Entry.value).foldl Lrx1.add (Lrx1.add Lrx1.zero z) from congrArg (fun q => ((es.filter (fromAt i r)).map Entry.value).foldl Lrx1.add q) e1]
  rw [fold_out hl.pos _ _ zero_red.pos pos, fold_perm ((p.filter _).map _) _ zero_red.pos pos]
  rfl
theorem from_len {M : Model} (wf : Wf M) {es : List Entry} (p : es.Perm M.routes) (i r : Nat) : (es.filter (fromAt i r)).length ≤ 32 := by
  rw [(p.filter (fromAt i r)).length_eq]
  have h := ord_len (M.routes.filter (fromAt i r)) ((i * 4 + r) * 32) ((i * 4 + r) * 32 + 32) (wf.ro.so.filter _) fun e he => by
    obtain ⟨h1, h2⟩ := List.mem_filter.mp he
    have sm := ro_sm (wf.ro.rg e h1) wf.nst wf.ncl
    unfold fromAt at h2
    rw [Bool.and_eq_true, beq_iff_eq, beq_iff_eq] at h2
    have := sm.c
    have := sm.d
    obtain ⟨rfl, rfl⟩ := h2
    unfold code
    omega
  omega
theorem part_bd {M : Model} (wf : Wf M) {es : List Entry} (p : es.Perm M.routes) (i r k : Nat) :
    Bd 1100 ((((es.take k).filter (fromAt i r)).map Entry.value).foldl Lrx1.add (Lrx9.valueAt M.leaving i r 0 0)) ∧ Red ((((es.take k).filter (fromAt i r)).map Entry.value).foldl Lrx1.add (Lrx9.valueAt M.leaving i r 0 0)) := by
  have hl := val_red wf.le i r 0 0
  have pos : ∀ y ∈ ((es.take k).filter (fromAt i r)).map Entry.value, Bd 30 y ∧ 0 < y.den := fun y hy => by
    obtain ⟨e, he, rfl⟩ := List.mem_map.mp hy
    have v := wf.ro.vs e (p.subset (List.mem_of_mem_take (mem_of_filter he)))
    exact ⟨short_bd v.short, v.red.pos⟩
  have l1 : ((es.take k).filter (fromAt i r)).length ≤ 32 := Nat.le_trans ((List.Sublist.filter _ (List.take_sublist k es)).length_le) (from_len wf p i r)
  have b := fold_bd _ _ _ hl.2 hl.1.pos pos
  rw [List.length_map] at b
  refine ⟨b.1.mono (by omega), ?_⟩
  have rd : ∀ (l : List Fr) (z : Fr), Red z → (∀ y ∈ l, 0 < y.den) → Red (l.foldl Lrx1.add z) := by
    intro l
    induction l with
    | nil => intro z hz _; exact hz
    | cons y l ih => intro z hz h; exact ih _ (add_red hz.pos (h y List.mem_cons_self)) fun u m => h u (List.mem_cons_of_mem _ m)
  exact rd _ _ hl.1 fun y hy => (pos y hy).2
theorem take_filter {es : List Entry} {k : Nat} {e : Entry} (h : es[k]? = some e) (q : Entry → Bool) : (es.take (k + 1)).filter q = (es.take k).filter q ++ (if q e = true then [e] else []) := by
  rw [List.take_add_one, h, List.filter_append]
  congr 1
  cases c : q e <;> simp [c]
theorem val_any {ns nc : Nat} {l : List Entry} (en : EnOk (PlR ns nc) l) (i r : Nat) : l.any (fun e => e.station == i && e.class_ == r) = !decide (Lrx9.valueAt l i r 0 0 = Lrx1.zero) := by
  have same : ∀ x ∈ l, Lrx9.samePlace x ⟨i, r, 0, 0, Lrx1.zero⟩ = (x.station == i && x.class_ == r) := fun x hx => by
    obtain ⟨-, -, h3, h4⟩ := en.rg x hx
    unfold Lrx9.samePlace
    rw [h3, h4]
    simp
  unfold Lrx9.valueAt
  cases q : l.find? (fun e => Lrx9.samePlace e ⟨i, r, 0, 0, Lrx1.zero⟩) with
  | none =>
    have : l.any (fun e => e.station == i && e.class_ == r) = false := List.any_eq_false.mpr fun x hx => by
      rw [← same x hx]
      exact List.find?_eq_none.mp q x hx
    rw [this]
    rfl
  | some x =>
    have hx := List.mem_of_find?_eq_some q
    have h2 := List.find?_some q
    rw [same x hx] at h2
    have : l.any (fun e => e.station == i && e.class_ == r) = true := List.any_eq_true.mpr ⟨x, hx, h2⟩
    rw [this]
    have nz := (en.vs x hx).nz
    show true = !decide (x.value = Lrx1.zero)
    rw [decide_eq_false nz]
    rfl
theorem pop_any {nc : Nat} {l : List Entry} (en : EnOk (PoR nc) l) (r : Nat) : l.any (fun e => e.class_ == r) = !decide (Lrx9.valueAt l 0 r 0 0 = Lrx1.zero) := by
  have same : ∀ x ∈ l, Lrx9.samePlace x ⟨0, r, 0, 0, Lrx1.zero⟩ = (x.class_ == r) := fun x hx => by
    obtain ⟨h1, -, h3, h4⟩ := en.rg x hx
    unfold Lrx9.samePlace
    rw [h1, h3, h4]
    simp
  unfold Lrx9.valueAt
  cases q : l.find? (fun e => Lrx9.samePlace e ⟨0, r, 0, 0, Lrx1.zero⟩) with
  | none =>
    have : l.any (fun e => e.class_ == r) = false := List.any_eq_false.mpr fun x hx => by
      rw [← same x hx]
      exact List.find?_eq_none.mp q x hx
    rw [this]
    rfl
  | some x =>
    have hx := List.mem_of_find?_eq_some q
    have h2 := List.find?_some q
    rw [same x hx] at h2
    have : l.any (fun e => e.class_ == r) = true := List.any_eq_true.mpr ⟨x, hx, h2⟩
    rw [this]
    have nz := (en.vs x hx).nz
    show true = !decide (x.value = Lrx1.zero)
    rw [decide_eq_false nz]
    rfl
/-- the problems of a place, of a class -/
def placePs (M : Model) (i r : Nat) : List Lrx9.Problem :=
  (if Lrx9.outSum M i r ≠ Lrx1.zero ∧ Lrx9.outSum M i r ≠ Lrx1.one then [⟨1, i, r⟩] else [])
    ++ (if Lrx9.isUsed M i r ∧ Lrx9.valueAt M.services i r 0 0 = Lrx1.zero then [⟨2, i, r⟩] else [])
    ++ (if Lrx9.isUsed M i r = false ∧ Lrx9.valueAt M.services i r 0 0 ≠ Lrx1.zero then [⟨3, i, r⟩] else [])
def classPs (M : Model) (r : Nat) : List Lrx9.Problem :=
  (if M.arrivals.any (fun e => e.class_ == r) && M.populations.any (fun e => e.class_ == r) then [⟨4, 0, r⟩] else [])
    ++ (if !M.arrivals.any (fun e => e.class_ == r) && (!M.populations.any (fun e => e.class_ == r) && !(M.routes.any fun e => e.class_ != r && e.toClass == r)) then [⟨5, 0, r⟩] else [])
def placesPs (M : Model) (i : Nat) : List Lrx9.Problem := (List.range M.classes.length).flatMap (placePs M i)
theorem problems_eq (M : Model) : Lrx9.problems M = (List.range M.stations.length).flatMap (placesPs M) ++ (List.range M.classes.length).flatMap (classPs M) := by
  unfold Lrx9.problems Lrx9.placesOf
  congr 1
  rw [List.flatMap_assoc]
  congr 1
  funext i
  unfold placesPs
  rw [List.flatMap_map]
  rfl
theorem placePs_len (M : Model) (i r : Nat) : (placePs M i r).length ≤ 3 := by
  unfold placePs
  rw [List.length_append, List.length_append]
  split <;> split <;> split <;> simp
theorem classPs_len (M : Model) (r : Nat) : (classPs M r).length ≤ 2 := by
  unfold classPs
  rw [List.length_append]
  split <;> split <;> simp
theorem flat_le {α β : Type} {f : α → List β} {n : Nat} : ∀ {l : List α}, (∀ x ∈ l, (f x).length ≤ n) → (l.flatMap f).length ≤ n * l.length
  | [], _ => by simp
  | x :: l, h => by
    have h1 := h x List.mem_cons_self
    have h2 := flat_le (f := f) (n := n) (l := l) fun y m => h y (List.mem_cons_of_mem _ m)
    rw [List.flatMap_cons, List.length_append, List.length_cons, Nat.mul_succ]
    omega
theorem placesPs_len {M : Model} (wf : Wf M) (i : Nat) : (placesPs M i).length ≤ 12 := by
  have := flat_le (f := placePs M i) (n := 3) (l := List.range M.classes.length) fun r _ => placePs_len M i r
  rw [List.length_range] at this
  have := wf.ncl
  unfold placesPs
  omega
theorem range_flat {β : Type} (f : Nat → List β) (k : Nat) : (List.range (k + 1)).flatMap f = (List.range k).flatMap f ++ f k := by
  rw [List.range_succ, List.flatMap_append]
  simp
end Qu
set_option Elab.async false
set_option linter.all false
set_option maxRecDepth 100000
set_option maxHeartbeats 4000000
namespace Q
open PySem PySem.Spec PyProof.Rows L2
/-! ### the text by places -/
abbrev prog : Program := PySem.Challenge.pw_queuelanguage_s01_answers
def top (i : Nat) : Stmt := prog.main.body.getD i (.Pass ⟨0, 0, 0, 0⟩)
abbrev s_divisor_of : Stmt := top 4
abbrev s_reduced : Stmt := top 5
abbrev s_plus : Stmt := top 6
abbrev s_less : Stmt := top 7
abbrev s_times : Stmt := top 8
abbrev s_over : Stmt := top 9
abbrev s_opposite : Stmt := top 10
abbrev s_is_near : Stmt := top 11
abbrev s_is_within : Stmt := top 12
abbrev s_is_whole_within : Stmt := top 13
abbrev s_Station_init : Stmt := inClass (top 21) 0
abbrev s_Model_init : Stmt := inClass (top 22) 0
abbrev s_copy_of : Stmt := top 23
abbrev s_station_names : Stmt := top 24
abbrev s_value_word : Stmt := top 25
abbrev s_place_words : Stmt := top 26
abbrev s_value_rows : Stmt := top 27
abbrev s_station_row : Stmt := top 28
abbrev s_canonical_lines : Stmt := top 29
abbrev s_sum_of : Stmt := top 30
abbrev s_is_used : Stmt := top 31
abbrev s_place_problems : Stmt := top 32
abbrev s_class_problems : Stmt := top 33
abbrev s_problems_of : Stmt := top 34
abbrev s_LineError_init : Stmt := inClass (top 52) 0
abbrev s_need : Stmt := top 53
abbrev s_is_letter : Stmt := top 54
abbrev s_is_digit : Stmt := top 55
abbrev s_name_end : Stmt := top 56
abbrev s_digits_end : Stmt := top 57
abbrev s_sign_of : Stmt := top 58
abbrev s_number_of_tokens : Stmt := top 59
abbrev s_power_of_ten : Stmt := top 61
abbrev s_number_at : Stmt := top 62
abbrev s_name_at : Stmt := top 63
abbrev s_symbol_at : Stmt := top 64
abbrev s_token_at : Stmt := top 65
abbrev s_tokens_of : Stmt := top 66
abbrev s_Reader_init : Stmt := inClass (top 72) 0
abbrev s_Level_init : Stmt := inClass (top 73) 0
abbrev s_column_next : Stmt := top 74
abbrev s_is_next : Stmt := top 75
abbrev s_take_if : Stmt := top 76
abbrev s_symbol_next : Stmt := top 77
abbrev s_unexpected : Stmt := top 78
abbrev s_take_end : Stmt := top 79
abbrev s_whole_of : Stmt := top 80
abbrev s_put_factor : Stmt := top 81
abbrev s_take_number : Stmt := top 82
abbrev s_take_factor : Stmt := top 83
abbrev s_take_closing : Stmt := top 84
abbrev s_take_operator : Stmt := top 85
abbrev s_take_expression : Stmt := top 86
abbrev s_TextError_init : Stmt := inClass (top 99) 0
abbrev s_take_word : Stmt := top 100
abbrev s_take_new_name : Stmt := top 101
abbrev s_take_known : Stmt := top 102
abbrev s_take_place : Stmt := top 103
abbrev s_take_value : Stmt := top 104
abbrev s_take_last_value : Stmt := top 105
abbrev s_define_constant : Stmt := top 106
abbrev s_define_class : Stmt := top 107
abbrev s_take_many : Stmt := top 108
abbrev s_define_station : Stmt := top 109
abbrev s_set_value : Stmt := top 110
abbrev s_set_service : Stmt := top 111
abbrev s_set_arrival : Stmt := top 112
abbrev s_set_route : Stmt := top 113
abbrev s_set_leave : Stmt := top 114
abbrev s_set_population : Stmt := top 115
abbrev s_do_line : Stmt := top 118
abbrev s_done : Stmt := top 119
abbrev s_value_in : Stmt := top 120
abbrev s_Refused_init : Stmt := inClass (top 131) 0
abbrev s_Desk_init : Stmt := inClass (top 132) 0
abbrev s_ask : Stmt := top 133
abbrev s_lines_of : Stmt := top 134
abbrev s_asked_text : Stmt := top 135
abbrev s_ask_line : Stmt := top 136
abbrev s_result_of : Stmt := top 137
abbrev s_coded : Stmt := top 138
abbrev s_create : Stmt := top 139
abbrev s_load : Stmt := top 140
abbrev s_amend : Stmt := top 141
abbrev s_show_tokens : Stmt := top 142
abbrev s_evaluate : Stmt := top 143
abbrev s_print_model : Stmt := top 144
abbrev s_print_line : Stmt := top 145
abbrev s_counts : Stmt := top 146
abbrev s_show_station : Stmt := top 147
abbrev s_class_name : Stmt := top 148
abbrev s_number_of_calls : Stmt := top 149
abbrev s_find_station : Stmt := top 151
abbrev s_find_class : Stmt := top 152
abbrev s_constant : Stmt := top 153
abbrev s_asked_place : Stmt := top 154
abbrev s_service : Stmt := top 155
abbrev s_arrival : Stmt := top 156
abbrev s_route : Stmt := top 157
abbrev s_leaving : Stmt := top 158
abbrev s_out_sum : Stmt := top 159
abbrev s_population : Stmt := top 160
abbrev s_problems : Stmt := top 161
abbrev s_is_equal : Stmt := top 162
abbrev s_lacking : Stmt := top 163
abbrev s_difference : Stmt := top 164
abbrev s_check : Stmt := top 165
abbrev s_answered : Stmt := top 166
abbrev s_answers : Stmt := top 171
abbrev N_divisor_of : List Str := ["one", "other"]
theorem sc_divisor_of : FnScope N_divisor_of ["one", "other"] (defScope s_divisor_of) := ⟨rfl, rfl, rfl, by decide +kernel, rfl, by decide +kernel, by decide +kernel⟩
abbrev N_reduced : List Str := ["top", "bottom", "common"]
theorem sc_reduced : FnScope N_reduced ["top", "bottom"] (defScope s_reduced) := ⟨rfl, rfl, rfl, by decide +kernel, rfl, by decide +kernel, by decide +kernel⟩
abbrev N_plus : List Str := ["one", "other"]
theorem sc_plus : FnScope N_plus ["one", "other"] (defScope s_plus) := ⟨rfl, rfl, rfl, by decide +kernel, rfl, by decide +kernel, by decide +kernel⟩
abbrev N_less : List Str := ["one", "other"]
theorem sc_less : FnScope N_less ["one", "other"] (defScope s_less) := ⟨rfl, rfl, rfl, by decide +kernel, rfl, by decide +kernel, by decide +kernel⟩
abbrev N_times : List Str := ["one", "other"]
theorem sc_times : FnScope N_times ["one", "other"] (defScope s_times) := ⟨rfl, rfl, rfl, by decide +kernel, rfl, by decide +kernel, by decide +kernel⟩
abbrev N_over : List Str := ["one", "other"]
theorem sc_over : FnScope N_over ["one", "other"] (defScope s_over) := ⟨rfl, rfl, rfl, by decide +kernel, rfl, by decide +kernel, by decide +kernel⟩
abbrev N_opposite : List Str := ["one"]
theorem sc_opposite : FnScope N_opposite ["one"] (defScope s_opposite) := ⟨rfl, rfl, rfl, by decide +kernel, rfl, by decide +kernel, by decide +kernel⟩
abbrev N_is_near : List Str := ["one"]
theorem sc_is_near : FnScope N_is_near ["one"] (defScope s_is_near) := ⟨rfl, rfl, rfl, by decide +kernel, rfl, by decide +kernel, by decide +kernel⟩
abbrev N_is_within : List Str := ["one", "low", "high"]
theorem sc_is_within : FnScope N_is_within ["one", "low", "high"] (defScope s_is_within) := ⟨rfl, rfl, rfl, by decide +kernel, rfl, by decide +kernel, by decide +kernel⟩
abbrev N_is_whole_within : List Str := ["one", "low", "high"]
theorem sc_is_whole_within : FnScope N_is_whole_within ["one", "low", "high"] (defScope s_is_whole_within) := ⟨rfl, rfl, rfl, by decide +kernel, rfl, by decide +kernel, by decide +kernel⟩
abbrev N_Station_init : List Str := ["self", "name", "discipline", "servers", "capacity"]
theorem sc_Station_init : FnScope N_Station_init ["self", "name", "discipline", "servers", "capacity"] (defScope s_Station_init) := ⟨rfl, rfl, rfl, by decide +kernel, rfl, by decide +kernel, by decide +kernel⟩
abbrev N_Model_init : List Str := ["self"]
theorem sc_Model_init : FnScope N_Model_init ["self"] (defScope s_Model_init) := ⟨rfl, rfl, rfl, by decide +kernel, rfl, by decide +kernel, by decide +kernel⟩
abbrev N_copy_of : List Str := ["model", "found"]
theorem sc_copy_of : FnScope N_copy_of ["model"] (defScope s_copy_of) := ⟨rfl, rfl, rfl, by decide +kernel, rfl, by decide +kernel, by decide +kernel⟩
abbrev N_station_names : List Str := ["model", "station"]
theorem sc_station_names : FnScope N_station_names ["model"] (defScope s_station_names) := ⟨rfl, rfl, rfl, by decide +kernel, rfl, by decide +kernel, by decide +kernel⟩
abbrev N_value_word : List Str := ["value"]
theorem sc_value_word : FnScope N_value_word ["value"] (defScope s_value_word) := ⟨rfl, rfl, rfl, by decide +kernel, rfl, by decide +kernel, by decide +kernel⟩
abbrev N_place_words : List Str := ["model", "place", "found", "at"]
theorem sc_place_words : FnScope N_place_words ["model", "place"] (defScope s_place_words) := ⟨rfl, rfl, rfl, by decide +kernel, rfl, by decide +kernel, by decide +kernel⟩
abbrev N_value_rows : List Str := ["model", "word", "values", "place"]
theorem sc_value_rows : FnScope N_value_rows ["model", "word", "values"] (defScope s_value_rows) := ⟨rfl, rfl, rfl, by decide +kernel, rfl, by decide +kernel, by decide +kernel⟩
abbrev N_station_row : List Str := ["station", "found"]
theorem sc_station_row : FnScope N_station_row ["station"] (defScope s_station_row) := ⟨rfl, rfl, rfl, by decide +kernel, rfl, by decide +kernel, by decide +kernel⟩
abbrev N_canonical_lines : List Str := ["model", "rows", "name", "station", "number", "row"]
theorem sc_canonical_lines : FnScope N_canonical_lines ["model"] (defScope s_canonical_lines) := ⟨rfl, rfl, rfl, by decide +kernel, rfl, by decide +kernel, by decide +kernel⟩
abbrev N_sum_of : List Str := ["model", "place", "found", "route"]
theorem sc_sum_of : FnScope N_sum_of ["model", "place"] (defScope s_sum_of) := ⟨rfl, rfl, rfl, by decide +kernel, rfl, by decide +kernel, by decide +kernel⟩
abbrev N_is_used : List Str := ["model", "place", "route"]
theorem sc_is_used : FnScope N_is_used ["model", "place"] (defScope s_is_used) := ⟨rfl, rfl, rfl, by decide +kernel, rfl, by decide +kernel, by decide +kernel⟩
abbrev N_place_problems : List Str := ["model", "place", "found"]
theorem sc_place_problems : FnScope N_place_problems ["model", "place"] (defScope s_place_problems) := ⟨rfl, rfl, rfl, by decide +kernel, rfl, by decide +kernel, by decide +kernel⟩
abbrev N_class_problems : List Str := ["model", "number", "comes", "place", "stays", "others", "route"]
theorem sc_class_problems : FnScope N_class_problems ["model", "number"] (defScope s_class_problems) := ⟨rfl, rfl, rfl, by decide +kernel, rfl, by decide +kernel, by decide +kernel⟩
abbrev N_problems_of : List Str := ["model", "found", "station", "number"]
theorem sc_problems_of : FnScope N_problems_of ["model"] (defScope s_problems_of) := ⟨rfl, rfl, rfl, by decide +kernel, rfl, by decide +kernel, by decide +kernel⟩
abbrev N_LineError_init : List Str := ["self", "column", "kind"]
theorem sc_LineError_init : FnScope N_LineError_init ["self", "column", "kind"] (defScope s_LineError_init) := ⟨rfl, rfl, rfl, by decide +kernel, rfl, by decide +kernel, by decide +kernel⟩
abbrev N_need : List Str := ["holds", "column", "kind"]
theorem sc_need : FnScope N_need ["holds", "column", "kind"] (defScope s_need) := ⟨rfl, rfl, rfl, by decide +kernel, rfl, by decide +kernel, by decide +kernel⟩
abbrev N_is_letter : List Str := ["byte"]
theorem sc_is_letter : FnScope N_is_letter ["byte"] (defScope s_is_letter) := ⟨rfl, rfl, rfl, by decide +kernel, rfl, by decide +kernel, by decide +kernel⟩
abbrev N_is_digit : List Str := ["byte"]
theorem sc_is_digit : FnScope N_is_digit ["byte"] (defScope s_is_digit) := ⟨rfl, rfl, rfl, by decide +kernel, rfl, by decide +kernel, by decide +kernel⟩
abbrev N_name_end : List Str := ["row", "place"]
theorem sc_name_end : FnScope N_name_end ["row", "place"] (defScope s_name_end) := ⟨rfl, rfl, rfl, by decide +kernel, rfl, by decide +kernel, by decide +kernel⟩
abbrev N_digits_end : List Str := ["row", "place"]
theorem sc_digits_end : FnScope N_digits_end ["row", "place"] (defScope s_digits_end) := ⟨rfl, rfl, rfl, by decide +kernel, rfl, by decide +kernel, by decide +kernel⟩
abbrev N_sign_of : List Str := ["byte"]
theorem sc_sign_of : FnScope N_sign_of ["byte"] (defScope s_sign_of) := ⟨rfl, rfl, rfl, by decide +kernel, rfl, by decide +kernel, by decide +kernel⟩
abbrev N_number_of_tokens : List Str := ["row", "found", "byte"]
theorem sc_number_of_tokens : FnScope N_number_of_tokens ["row"] (defScope s_number_of_tokens) := ⟨rfl, rfl, rfl, by decide +kernel, rfl, by decide +kernel, by decide +kernel⟩
abbrev N_power_of_ten : List Str := ["many", "found", "turn"]
theorem sc_power_of_ten : FnScope N_power_of_ten ["many"] (defScope s_power_of_ten) := ⟨rfl, rfl, rfl, by decide +kernel, rfl, by decide +kernel, by decide +kernel⟩
abbrev N_number_at : List Str := ["row", "place", "end", "behind", "before", "after"]
theorem sc_number_at : FnScope N_number_at ["row", "place"] (defScope s_number_at) := ⟨rfl, rfl, rfl, by decide +kernel, rfl, by decide +kernel, by decide +kernel⟩
abbrev N_name_at : List Str := ["row", "place", "end", "byte"]
theorem sc_name_at : FnScope N_name_at ["row", "place"] (defScope s_name_at) := ⟨rfl, rfl, rfl, by decide +kernel, rfl, by decide +kernel, by decide +kernel⟩
abbrev N_symbol_at : List Str := ["row", "place", "byte"]
theorem sc_symbol_at : FnScope N_symbol_at ["row", "place"] (defScope s_symbol_at) := ⟨rfl, rfl, rfl, by decide +kernel, rfl, by decide +kernel, by decide +kernel⟩
abbrev N_token_at : List Str := ["row", "place"]
theorem sc_token_at : FnScope N_token_at ["row", "place"] (defScope s_token_at) := ⟨rfl, rfl, rfl, by decide +kernel, rfl, by decide +kernel, by decide +kernel⟩
abbrev N_tokens_of : List Str := ["row", "found", "place", "token"]
theorem sc_tokens_of : FnScope N_tokens_of ["row"] (defScope s_tokens_of) := ⟨rfl, rfl, rfl, by decide +kernel, rfl, by decide +kernel, by decide +kernel⟩
abbrev N_Reader_init : List Str := ["self", "tokens", "length"]
theorem sc_Reader_init : FnScope N_Reader_init ["self", "tokens", "length"] (defScope s_Reader_init) := ⟨rfl, rfl, rfl, by decide +kernel, rfl, by decide +kernel, by decide +kernel⟩
abbrev N_Level_init : List Str := ["self"]
theorem sc_Level_init : FnScope N_Level_init ["self"] (defScope s_Level_init) := ⟨rfl, rfl, rfl, by decide +kernel, rfl, by decide +kernel, by decide +kernel⟩
abbrev N_column_next : List Str := ["reader"]
theorem sc_column_next : FnScope N_column_next ["reader"] (defScope s_column_next) := ⟨rfl, rfl, rfl, by decide +kernel, rfl, by decide +kernel, by decide +kernel⟩
abbrev N_is_next : List Str := ["reader", "kind", "value", "token"]
theorem sc_is_next : FnScope N_is_next ["reader", "kind", "value"] (defScope s_is_next) := ⟨rfl, rfl, rfl, by decide +kernel, rfl, by decide +kernel, by decide +kernel⟩
abbrev N_take_if : List Str := ["reader", "kind", "value", "found"]
theorem sc_take_if : FnScope N_take_if ["reader", "kind", "value"] (defScope s_take_if) := ⟨rfl, rfl, rfl, by decide +kernel, rfl, by decide +kernel, by decide +kernel⟩
abbrev N_symbol_next : List Str := ["reader", "symbols"]
theorem sc_symbol_next : FnScope N_symbol_next ["reader", "symbols"] (defScope s_symbol_next) := ⟨rfl, rfl, rfl, by decide +kernel, rfl, by decide +kernel, by decide +kernel⟩
abbrev N_unexpected : List Str := ["reader"]
theorem sc_unexpected : FnScope N_unexpected ["reader"] (defScope s_unexpected) := ⟨rfl, rfl, rfl, by decide +kernel, rfl, by decide +kernel, by decide +kernel⟩
abbrev N_take_end : List Str := ["reader"]
theorem sc_take_end : FnScope N_take_end ["reader"] (defScope s_take_end) := ⟨rfl, rfl, rfl, by decide +kernel, rfl, by decide +kernel, by decide +kernel⟩
abbrev N_whole_of : List Str := ["level"]
theorem sc_whole_of : FnScope N_whole_of ["level"] (defScope s_whole_of) := ⟨rfl, rfl, rfl, by decide +kernel, rfl, by decide +kernel, by decide +kernel⟩
abbrev N_put_factor : List Str := ["level", "value", "own"]
theorem sc_put_factor : FnScope N_put_factor ["level", "value"] (defScope s_put_factor) := ⟨rfl, rfl, rfl, by decide +kernel, rfl, by decide +kernel, by decide +kernel⟩
abbrev N_take_number : List Str := ["reader", "constants", "kind", "column", "value"]
theorem sc_take_number : FnScope N_take_number ["reader", "constants"] (defScope s_take_number) := ⟨rfl, rfl, rfl, by decide +kernel, rfl, by decide +kernel, by decide +kernel⟩
abbrev N_take_factor : List Str := ["reader", "constants", "levels"]
theorem sc_take_factor : FnScope N_take_factor ["reader", "constants", "levels"] (defScope s_take_factor) := ⟨rfl, rfl, rfl, by decide +kernel, rfl, by decide +kernel, by decide +kernel⟩
abbrev N_take_closing : List Str := ["reader", "levels", "value"]
theorem sc_take_closing : FnScope N_take_closing ["reader", "levels"] (defScope s_take_closing) := ⟨rfl, rfl, rfl, by decide +kernel, rfl, by decide +kernel, by decide +kernel⟩
abbrev N_take_operator : List Str := ["reader", "levels", "level", "symbol"]
theorem sc_take_operator : FnScope N_take_operator ["reader", "levels"] (defScope s_take_operator) := ⟨rfl, rfl, rfl, by decide +kernel, rfl, by decide +kernel, by decide +kernel⟩
abbrev N_take_expression : List Str := ["reader", "constants", "levels"]
theorem sc_take_expression : FnScope N_take_expression ["reader", "constants"] (defScope s_take_expression) := ⟨rfl, rfl, rfl, by decide +kernel, rfl, by decide +kernel, by decide +kernel⟩
abbrev N_TextError_init : List Str := ["self", "line", "column", "kind"]
theorem sc_TextError_init : FnScope N_TextError_init ["self", "line", "column", "kind"] (defScope s_TextError_init) := ⟨rfl, rfl, rfl, by decide +kernel, rfl, by decide +kernel, by decide +kernel⟩
abbrev N_take_word : List Str := ["reader", "column"]
theorem sc_take_word : FnScope N_take_word ["reader"] (defScope s_take_word) := ⟨rfl, rfl, rfl, by decide +kernel, rfl, by decide +kernel, by decide +kernel⟩
abbrev N_take_new_name : List Str := ["reader", "model", "column", "word", "is_known"]
theorem sc_take_new_name : FnScope N_take_new_name ["reader", "model"] (defScope s_take_new_name) := ⟨rfl, rfl, rfl, by decide +kernel, rfl, by decide +kernel, by decide +kernel⟩
abbrev N_take_known : List Str := ["reader", "names", "column", "word"]
theorem sc_take_known : FnScope N_take_known ["reader", "names"] (defScope s_take_known) := ⟨rfl, rfl, rfl, by decide +kernel, rfl, by decide +kernel, by decide +kernel⟩
abbrev N_take_place : List Str := ["reader", "model", "station"]
theorem sc_take_place : FnScope N_take_place ["reader", "model"] (defScope s_take_place) := ⟨rfl, rfl, rfl, by decide +kernel, rfl, by decide +kernel, by decide +kernel⟩
abbrev N_take_value : List Str := ["reader", "model", "column"]
theorem sc_take_value : FnScope N_take_value ["reader", "model"] (defScope s_take_value) := ⟨rfl, rfl, rfl, by decide +kernel, rfl, by decide +kernel, by decide +kernel⟩
abbrev N_take_last_value : List Str := ["reader", "model", "found"]
theorem sc_take_last_value : FnScope N_take_last_value ["reader", "model"] (defScope s_take_last_value) := ⟨rfl, rfl, rfl, by decide +kernel, rfl, by decide +kernel, by decide +kernel⟩
abbrev N_define_constant : List Str := ["reader", "model", "keyword", "name", "column", "value"]
theorem sc_define_constant : FnScope N_define_constant ["reader", "model", "keyword"] (defScope s_define_constant) := ⟨rfl, rfl, rfl, by decide +kernel, rfl, by decide +kernel, by decide +kernel⟩
abbrev N_define_class : List Str := ["reader", "model", "keyword", "name"]
theorem sc_define_class : FnScope N_define_class ["reader", "model", "keyword"] (defScope s_define_class) := ⟨rfl, rfl, rfl, by decide +kernel, rfl, by decide +kernel, by decide +kernel⟩
abbrev N_take_many : List Str := ["reader", "model", "word", "low", "high", "column", "value"]
theorem sc_take_many : FnScope N_take_many ["reader", "model", "word", "low", "high"] (defScope s_take_many) := ⟨rfl, rfl, rfl, by decide +kernel, rfl, by decide +kernel, by decide +kernel⟩
abbrev N_define_station : List Str := ["reader", "model", "keyword", "name", "column", "word", "discipline", "servers", "capacity"]
theorem sc_define_station : FnScope N_define_station ["reader", "model", "keyword"] (defScope s_define_station) := ⟨rfl, rfl, rfl, by decide +kernel, rfl, by decide +kernel, by decide +kernel⟩
abbrev N_set_value : List Str := ["values", "place", "value", "keyword", "is_once"]
theorem sc_set_value : FnScope N_set_value ["values", "place", "value", "keyword", "is_once"] (defScope s_set_value) := ⟨rfl, rfl, rfl, by decide +kernel, rfl, by decide +kernel, by decide +kernel⟩
abbrev N_set_service : List Str := ["reader", "model", "keyword", "is_once", "place", "column", "value"]
theorem sc_set_service : FnScope N_set_service ["reader", "model", "keyword", "is_once"] (defScope s_set_service) := ⟨rfl, rfl, rfl, by decide +kernel, rfl, by decide +kernel, by decide +kernel⟩
abbrev N_set_arrival : List Str := ["reader", "model", "keyword", "is_once", "place", "column", "value"]
theorem sc_set_arrival : FnScope N_set_arrival ["reader", "model", "keyword", "is_once"] (defScope s_set_arrival) := ⟨rfl, rfl, rfl, by decide +kernel, rfl, by decide +kernel, by decide +kernel⟩
abbrev N_set_route : List Str := ["reader", "model", "keyword", "is_once", "place", "column", "value"]
theorem sc_set_route : FnScope N_set_route ["reader", "model", "keyword", "is_once"] (defScope s_set_route) := ⟨rfl, rfl, rfl, by decide +kernel, rfl, by decide +kernel, by decide +kernel⟩
abbrev N_set_leave : List Str := ["reader", "model", "keyword", "is_once", "place", "column", "value"]
theorem sc_set_leave : FnScope N_set_leave ["reader", "model", "keyword", "is_once"] (defScope s_set_leave) := ⟨rfl, rfl, rfl, by decide +kernel, rfl, by decide +kernel, by decide +kernel⟩
abbrev N_set_population : List Str := ["reader", "model", "keyword", "is_once", "number", "column", "value"]
theorem sc_set_population : FnScope N_set_population ["reader", "model", "keyword", "is_once"] (defScope s_set_population) := ⟨rfl, rfl, rfl, by decide +kernel, rfl, by decide +kernel, by decide +kernel⟩
abbrev N_do_line : List Str := ["model", "row", "is_once", "reader", "column", "word"]
theorem sc_do_line : FnScope N_do_line ["model", "row", "is_once"] (defScope s_do_line) := ⟨rfl, rfl, rfl, by decide +kernel, rfl, by decide +kernel, by decide +kernel⟩
abbrev N_done : List Str := ["model", "rows", "is_once", "found", "number", "row", "error"]
theorem sc_done : FnScope N_done ["model", "rows", "is_once"] (defScope s_done) := ⟨rfl, rfl, rfl, by decide +kernel, rfl, by decide +kernel, by decide +kernel⟩
abbrev N_value_in : List Str := ["model", "row", "reader", "column", "value"]
theorem sc_value_in : FnScope N_value_in ["model", "row"] (defScope s_value_in) := ⟨rfl, rfl, rfl, by decide +kernel, rfl, by decide +kernel, by decide +kernel⟩
abbrev N_Refused_init : List Str := ["self", "row"]
theorem sc_Refused_init : FnScope N_Refused_init ["self", "row"] (defScope s_Refused_init) := ⟨rfl, rfl, rfl, by decide +kernel, rfl, by decide +kernel, by decide +kernel⟩
abbrev N_Desk_init : List Str := ["self"]
theorem sc_Desk_init : FnScope N_Desk_init ["self"] (defScope s_Desk_init) := ⟨rfl, rfl, rfl, by decide +kernel, rfl, by decide +kernel, by decide +kernel⟩
abbrev N_ask : List Str := ["holds", "code"]
theorem sc_ask : FnScope N_ask ["holds", "code"] (defScope s_ask) := ⟨rfl, rfl, rfl, by decide +kernel, rfl, by decide +kernel, by decide +kernel⟩
abbrev N_lines_of : List Str := ["text", "found", "row", "byte"]
theorem sc_lines_of : FnScope N_lines_of ["text"] (defScope s_lines_of) := ⟨rfl, rfl, rfl, by decide +kernel, rfl, by decide +kernel, by decide +kernel⟩
abbrev N_asked_text : List Str := ["text", "rows", "byte", "row"]
theorem sc_asked_text : FnScope N_asked_text ["text"] (defScope s_asked_text) := ⟨rfl, rfl, rfl, by decide +kernel, rfl, by decide +kernel, by decide +kernel⟩
abbrev N_ask_line : List Str := ["row", "byte"]
theorem sc_ask_line : FnScope N_ask_line ["row"] (defScope s_ask_line) := ⟨rfl, rfl, rfl, by decide +kernel, rfl, by decide +kernel, by decide +kernel⟩
abbrev N_result_of : List Str := ["model", "text", "is_once", "rows", "error"]
theorem sc_result_of : FnScope N_result_of ["model", "text", "is_once"] (defScope s_result_of) := ⟨rfl, rfl, rfl, by decide +kernel, rfl, by decide +kernel, by decide +kernel⟩
abbrev N_coded : List Str := ["word", "sign"]
theorem sc_coded : FnScope N_coded ["word"] (defScope s_coded) := ⟨rfl, rfl, rfl, by decide +kernel, rfl, by decide +kernel, by decide +kernel⟩
abbrev N_create : List Str := ["desk", "numbers", "row"]
theorem sc_create : FnScope N_create ["desk", "numbers", "row"] (defScope s_create) := ⟨rfl, rfl, rfl, by decide +kernel, rfl, by decide +kernel, by decide +kernel⟩
abbrev N_load : List Str := ["desk", "numbers", "row"]
theorem sc_load : FnScope N_load ["desk", "numbers", "row"] (defScope s_load) := ⟨rfl, rfl, rfl, by decide +kernel, rfl, by decide +kernel, by decide +kernel⟩
abbrev N_amend : List Str := ["desk", "numbers", "row"]
theorem sc_amend : FnScope N_amend ["desk", "numbers", "row"] (defScope s_amend) := ⟨rfl, rfl, rfl, by decide +kernel, rfl, by decide +kernel, by decide +kernel⟩
abbrev N_show_tokens : List Str := ["desk", "numbers", "row", "error", "tokens", "found", "kind", "column", "value"]
theorem sc_show_tokens : FnScope N_show_tokens ["desk", "numbers", "row"] (defScope s_show_tokens) := ⟨rfl, rfl, rfl, by decide +kernel, rfl, by decide +kernel, by decide +kernel⟩
abbrev N_evaluate : List Str := ["desk", "numbers", "row", "error"]
theorem sc_evaluate : FnScope N_evaluate ["desk", "numbers", "row"] (defScope s_evaluate) := ⟨rfl, rfl, rfl, by decide +kernel, rfl, by decide +kernel, by decide +kernel⟩
abbrev N_print_model : List Str := ["desk", "numbers", "row", "line"]
theorem sc_print_model : FnScope N_print_model ["desk", "numbers", "row"] (defScope s_print_model) := ⟨rfl, rfl, rfl, by decide +kernel, rfl, by decide +kernel, by decide +kernel⟩
abbrev N_print_line : List Str := ["desk", "numbers", "row", "lines"]
theorem sc_print_line : FnScope N_print_line ["desk", "numbers", "row"] (defScope s_print_line) := ⟨rfl, rfl, rfl, by decide +kernel, rfl, by decide +kernel, by decide +kernel⟩
abbrev N_counts : List Str := ["desk", "numbers", "row", "model", "found"]
theorem sc_counts : FnScope N_counts ["desk", "numbers", "row"] (defScope s_counts) := ⟨rfl, rfl, rfl, by decide +kernel, rfl, by decide +kernel, by decide +kernel⟩
abbrev N_show_station : List Str := ["desk", "numbers", "row", "station"]
theorem sc_show_station : FnScope N_show_station ["desk", "numbers", "row"] (defScope s_show_station) := ⟨rfl, rfl, rfl, by decide +kernel, rfl, by decide +kernel, by decide +kernel⟩
abbrev N_class_name : List Str := ["desk", "numbers", "row"]
theorem sc_class_name : FnScope N_class_name ["desk", "numbers", "row"] (defScope s_class_name) := ⟨rfl, rfl, rfl, by decide +kernel, rfl, by decide +kernel, by decide +kernel⟩
abbrev N_number_of_calls : List Str := ["names", "row", "rows", "name"]
theorem sc_number_of_calls : FnScope N_number_of_calls ["names", "row"] (defScope s_number_of_calls) := ⟨rfl, rfl, rfl, by decide +kernel, rfl, by decide +kernel, by decide +kernel⟩
abbrev N_find_station : List Str := ["desk", "numbers", "row"]
theorem sc_find_station : FnScope N_find_station ["desk", "numbers", "row"] (defScope s_find_station) := ⟨rfl, rfl, rfl, by decide +kernel, rfl, by decide +kernel, by decide +kernel⟩
abbrev N_find_class : List Str := ["desk", "numbers", "row"]
theorem sc_find_class : FnScope N_find_class ["desk", "numbers", "row"] (defScope s_find_class) := ⟨rfl, rfl, rfl, by decide +kernel, rfl, by decide +kernel, by decide +kernel⟩
abbrev N_constant : List Str := ["desk", "numbers", "row", "names"]
theorem sc_constant : FnScope N_constant ["desk", "numbers", "row"] (defScope s_constant) := ⟨rfl, rfl, rfl, by decide +kernel, rfl, by decide +kernel, by decide +kernel⟩
abbrev N_asked_place : List Str := ["model", "numbers"]
theorem sc_asked_place : FnScope N_asked_place ["model", "numbers"] (defScope s_asked_place) := ⟨rfl, rfl, rfl, by decide +kernel, rfl, by decide +kernel, by decide +kernel⟩
abbrev N_service : List Str := ["desk", "numbers", "row"]
theorem sc_service : FnScope N_service ["desk", "numbers", "row"] (defScope s_service) := ⟨rfl, rfl, rfl, by decide +kernel, rfl, by decide +kernel, by decide +kernel⟩
abbrev N_arrival : List Str := ["desk", "numbers", "row"]
theorem sc_arrival : FnScope N_arrival ["desk", "numbers", "row"] (defScope s_arrival) := ⟨rfl, rfl, rfl, by decide +kernel, rfl, by decide +kernel, by decide +kernel⟩
abbrev N_route : List Str := ["desk", "numbers", "row", "place"]
theorem sc_route : FnScope N_route ["desk", "numbers", "row"] (defScope s_route) := ⟨rfl, rfl, rfl, by decide +kernel, rfl, by decide +kernel, by decide +kernel⟩
abbrev N_leaving : List Str := ["desk", "numbers", "row"]
theorem sc_leaving : FnScope N_leaving ["desk", "numbers", "row"] (defScope s_leaving) := ⟨rfl, rfl, rfl, by decide +kernel, rfl, by decide +kernel, by decide +kernel⟩
abbrev N_out_sum : List Str := ["desk", "numbers", "row"]
theorem sc_out_sum : FnScope N_out_sum ["desk", "numbers", "row"] (defScope s_out_sum) := ⟨rfl, rfl, rfl, by decide +kernel, rfl, by decide +kernel, by decide +kernel⟩
abbrev N_population : List Str := ["desk", "numbers", "row"]
theorem sc_population : FnScope N_population ["desk", "numbers", "row"] (defScope s_population) := ⟨rfl, rfl, rfl, by decide +kernel, rfl, by decide +kernel, by decide +kernel⟩
abbrev N_problems : List Str := ["desk", "numbers", "row", "some", "found", "problem"]
theorem sc_problems : FnScope N_problems ["desk", "numbers", "row"] (defScope s_problems) := ⟨rfl, rfl, rfl, by decide +kernel, rfl, by decide +kernel, by decide +kernel⟩
abbrev N_is_equal : List Str := ["desk", "numbers", "row"]
theorem sc_is_equal : FnScope N_is_equal ["desk", "numbers", "row"] (defScope s_is_equal) := ⟨rfl, rfl, rfl, by decide +kernel, rfl, by decide +kernel, by decide +kernel⟩
abbrev N_lacking : List Str := ["lines", "others", "found", "number", "line"]
theorem sc_lacking : FnScope N_lacking ["lines", "others"] (defScope s_lacking) := ⟨rfl, rfl, rfl, by decide +kernel, rfl, by decide +kernel, by decide +kernel⟩
abbrev N_difference : List Str := ["desk", "numbers", "row", "others", "own"]
theorem sc_difference : FnScope N_difference ["desk", "numbers", "row"] (defScope s_difference) := ⟨rfl, rfl, rfl, by decide +kernel, rfl, by decide +kernel, by decide +kernel⟩
abbrev N_check : List Str := ["desk", "numbers", "row"]
theorem sc_check : FnScope N_check ["desk", "numbers", "row"] (defScope s_check) := ⟨rfl, rfl, rfl, by decide +kernel, rfl, by decide +kernel, by decide +kernel⟩
abbrev N_answered : List Str := ["deed", "desk", "numbers", "row", "is_first", "refused"]
theorem sc_answered : FnScope N_answered ["deed", "desk", "numbers", "row", "is_first"] (defScope s_answered) := ⟨rfl, rfl, rfl, by decide +kernel, rfl, by decide +kernel, by decide +kernel⟩
abbrev N_answers : List Str := ["calls", "desk", "found", "at", "numbers", "some", "number", "row"]
theorem sc_answers : FnScope N_answers ["calls"] (defScope s_answers) := ⟨rfl, rfl, rfl, by decide +kernel, rfl, by decide +kernel, by decide +kernel⟩
/-! ### the defs as data -/
def d_divisor_of : He.DefD := ⟨("divisor_of", none), "divisor_of", "divisor_of", defArgs s_divisor_of, defBody s_divisor_of, defScope s_divisor_of, [], []⟩
def d_reduced : He.DefD := ⟨("reduced", none), "reduced", "reduced", defArgs s_reduced, defBody s_reduced, defScope s_reduced, [], []⟩
def d_plus : He.DefD := ⟨("plus", none), "plus", "plus", defArgs s_plus, defBody s_plus, defScope s_plus, [], []⟩
def d_less : He.DefD := ⟨("less", none), "less", "less", defArgs s_less, defBody s_less, defScope s_less, [], []⟩
def d_times : He.DefD := ⟨("times", none), "times", "times", defArgs s_times, defBody s_times, defScope s_times, [], []⟩
def d_over : He.DefD := ⟨("over", none), "over", "over", defArgs s_over, defBody s_over, defScope s_over, [], []⟩
def d_opposite : He.DefD := ⟨("opposite", none), "opposite", "opposite", defArgs s_opposite, defBody s_opposite, defScope s_opposite, [], []⟩
def d_is_near : He.DefD := ⟨("is_near", none), "is_near", "is_near", defArgs s_is_near, defBody s_is_near, defScope s_is_near, [], []⟩
def d_is_within : He.DefD := ⟨("is_within", none), "is_within", "is_within", defArgs s_is_within, defBody s_is_within, defScope s_is_within, [], []⟩
def d_is_whole_within : He.DefD := ⟨("is_whole_within", none), "is_whole_within", "is_whole_within", defArgs s_is_whole_within, defBody s_is_whole_within, defScope s_is_whole_within, [], []⟩
def d_Station_init : He.DefD := ⟨("Station", some "__init__"), "__init__", "Station.__init__", defArgs s_Station_init, defBody s_Station_init, defScope s_Station_init, [], []⟩
def d_Model_init : He.DefD := ⟨("Model", some "__init__"), "__init__", "Model.__init__", defArgs s_Model_init, defBody s_Model_init, defScope s_Model_init, [], []⟩
def d_copy_of : He.DefD := ⟨("copy_of", none), "copy_of", "copy_of", defArgs s_copy_of, defBody s_copy_of, defScope s_copy_of, [], []⟩
def d_station_names : He.DefD := ⟨("station_names", none), "station_names", "station_names", defArgs s_station_names, defBody s_station_names, defScope s_station_names, [], []⟩
def d_value_word : He.DefD := ⟨("value_word", none), "value_word", "value_word", defArgs s_value_word, defBody s_value_word, defScope s_value_word, [], []⟩
def d_place_words : He.DefD := ⟨("place_words", none), "place_words", "place_words", defArgs s_place_words, defBody s_place_words, defScope s_place_words, [], []⟩
def d_value_rows : He.DefD := ⟨("value_rows", none), "value_rows", "value_rows", defArgs s_value_rows, defBody s_value_rows, defScope s_value_rows, [], []⟩
def d_station_row : He.DefD := ⟨("station_row", none), "station_row", "station_row", defArgs s_station_row, defBody s_station_row, defScope s_station_row, [], []⟩
def d_canonical_lines : He.DefD := ⟨("canonical_lines", none), "canonical_lines", "canonical_lines", defArgs s_canonical_lines, defBody s_canonical_lines, defScope s_canonical_lines, [], []⟩
def d_sum_of : He.DefD := ⟨("sum_of", none), "sum_of", "sum_of", defArgs s_sum_of, defBody s_sum_of, defScope s_sum_of, [], []⟩
def d_is_used : He.DefD := ⟨("is_used", none), "is_used", "is_used", defArgs s_is_used, defBody s_is_used, defScope s_is_used, [], []⟩
def d_place_problems : He.DefD := ⟨("place_problems", none), "place_problems", "place_problems", defArgs s_place_problems, defBody s_place_problems, defScope s_place_problems, [], []⟩
def d_class_problems : He.DefD := ⟨("class_problems", none), "class_problems", "class_problems", defArgs s_class_problems, defBody s_class_problems, defScope s_class_problems, [], []⟩
def d_problems_of : He.DefD := ⟨("problems_of", none), "problems_of", "problems_of", defArgs s_problems_of, defBody s_problems_of, defScope s_problems_of, [], []⟩
def d_LineError_init : He.DefD := ⟨("LineError", some "__init__"), "__init__", "LineError.__init__", defArgs s_LineError_init, defBody s_LineError_init, defScope s_LineError_init, [], []⟩
def d_need : He.DefD := ⟨("need", none), "need", "need", defArgs s_need, defBody s_need, defScope s_need, [], []⟩
def d_is_letter : He.DefD := ⟨("is_letter", none), "is_letter", "is_letter", defArgs s_is_letter, defBody s_is_letter, defScope s_is_letter, [], []⟩
def d_is_digit : He.DefD := ⟨("is_digit", none), "is_digit", "is_digit", defArgs s_is_digit, defBody s_is_digit, defScope s_is_digit, [], []⟩
def d_name_end : He.DefD := ⟨("name_end", none), "name_end", "name_end", defArgs s_name_end, defBody s_name_end, defScope s_name_end, [], []⟩
def d_digits_end : He.DefD := ⟨("digits_end", none), "digits_end", "digits_end", defArgs s_digits_end, defBody s_digits_end, defScope s_digits_end, [], []⟩
def d_sign_of : He.DefD := ⟨("sign_of", none), "sign_of", "sign_of", defArgs s_sign_of, defBody s_sign_of, defScope s_sign_of, [], []⟩
def d_number_of_tokens : He.DefD := ⟨("number_of_tokens", none), "number_of", "number_of", defArgs s_number_of_tokens, defBody s_number_of_tokens, defScope s_number_of_tokens, [], []⟩
def d_power_of_ten : He.DefD := ⟨("power_of_ten", none), "power_of_ten", "power_of_ten", defArgs s_power_of_ten, defBody s_power_of_ten, defScope s_power_of_ten, [], []⟩
def d_number_at : He.DefD := ⟨("number_at", none), "number_at", "number_at", defArgs s_number_at, defBody s_number_at, defScope s_number_at, [], []⟩
def d_name_at : He.DefD := ⟨("name_at", none), "name_at", "name_at", defArgs s_name_at, defBody s_name_at, defScope s_name_at, [], []⟩
def d_symbol_at : He.DefD := ⟨("symbol_at", none), "symbol_at", "symbol_at", defArgs s_symbol_at, defBody s_symbol_at, defScope s_symbol_at, [], []⟩
def d_token_at : He.DefD := ⟨("token_at", none), "token_at", "token_at", defArgs s_token_at, defBody s_token_at, defScope s_token_at, [], []⟩
def d_tokens_of : He.DefD := ⟨("tokens_of", none), "tokens_of", "tokens_of", defArgs s_tokens_of, defBody s_tokens_of, defScope s_tokens_of, [], []⟩
def d_Reader_init : He.DefD := ⟨("Reader", some "__init__"), "__init__", "Reader.__init__", defArgs s_Reader_init, defBody s_Reader_init, defScope s_Reader_init, [], []⟩
def d_Level_init : He.DefD := ⟨("Level", some "__init__"), "__init__", "Level.__init__", defArgs s_Level_init, defBody s_Level_init, defScope s_Level_init, [], []⟩
def d_column_next : He.DefD := ⟨("column_next", none), "column_next", "column_next", defArgs s_column_next, defBody s_column_next, defScope s_column_next, [], []⟩
def d_is_next : He.DefD := ⟨("is_next", none), "is_next", "is_next", defArgs s_is_next, defBody s_is_next, defScope s_is_next, [], []⟩
def d_take_if : He.DefD := ⟨("take_if", none), "take_if", "take_if", defArgs s_take_if, defBody s_take_if, defScope s_take_if, [], []⟩
def d_symbol_next : He.DefD := ⟨("symbol_next", none), "symbol_next", "symbol_next", defArgs s_symbol_next, defBody s_symbol_next, defScope s_symbol_next, [], []⟩
def d_unexpected : He.DefD := ⟨("unexpected", none), "unexpected", "unexpected", defArgs s_unexpected, defBody s_unexpected, defScope s_unexpected, [], []⟩
def d_take_end : He.DefD := ⟨("take_end", none), "take_end", "take_end", defArgs s_take_end, defBody s_take_end, defScope s_take_end, [], []⟩
def d_whole_of : He.DefD := ⟨("whole_of", none), "whole_of", "whole_of", defArgs s_whole_of, defBody s_whole_of, defScope s_whole_of, [], []⟩
def d_put_factor : He.DefD := ⟨("put_factor", none), "put_factor", "put_factor", defArgs s_put_factor, defBody s_put_factor, defScope s_put_factor, [], []⟩
def d_take_number : He.DefD := ⟨("take_number", none), "take_number", "take_number", defArgs s_take_number, defBody s_take_number, defScope s_take_number, [], []⟩
def d_take_factor : He.DefD := ⟨("take_factor", none), "take_factor", "take_factor", defArgs s_take_factor, defBody s_take_factor, defScope s_take_factor, [], []⟩
def d_take_closing : He.DefD := ⟨("take_closing", none), "take_closing", "take_closing", defArgs s_take_closing, defBody s_take_closing, defScope s_take_closing, [], []⟩
def d_take_operator : He.DefD := ⟨("take_operator", none), "take_operator", "take_operator", defArgs s_take_operator, defBody s_take_operator, defScope s_take_operator, [], []⟩
def d_take_expression : He.DefD := ⟨("take_expression", none), "take_expression", "take_expression", defArgs s_take_expression, defBody s_take_expression, defScope s_take_expression, [], []⟩
def d_TextError_init : He.DefD := ⟨("TextError", some "__init__"), "__init__", "TextError.__init__", defArgs s_TextError_init, defBody s_TextError_init, defScope s_TextError_init, [], []⟩
def d_take_word : He.DefD := ⟨("take_word", none), "take_word", "take_word", defArgs s_take_word, defBody s_take_word, defScope s_take_word, [], []⟩
def d_take_new_name : He.DefD := ⟨("take_new_name", none), "take_new_name", "take_new_name", defArgs s_take_new_name, defBody s_take_new_name, defScope s_take_new_name, [], []⟩
def d_take_known : He.DefD := ⟨("take_known", none), "take_known", "take_known", defArgs s_take_known, defBody s_take_known, defScope s_take_known, [], []⟩
def d_take_place : He.DefD := ⟨("take_place", none), "take_place", "take_place", defArgs s_take_place, defBody s_take_place, defScope s_take_place, [], []⟩
def d_take_value : He.DefD := ⟨("take_value", none), "take_value", "take_value", defArgs s_take_value, defBody s_take_value, defScope s_take_value, [], []⟩
def d_take_last_value : He.DefD := ⟨("take_last_value", none), "take_last_value", "take_last_value", defArgs s_take_last_value, defBody s_take_last_value, defScope s_take_last_value, [], []⟩
def d_define_constant : He.DefD := ⟨("define_constant", none), "define_constant", "define_constant", defArgs s_define_constant, defBody s_define_constant, defScope s_define_constant, [], []⟩
def d_define_class : He.DefD := ⟨("define_class", none), "define_class", "define_class", defArgs s_define_class, defBody s_define_class, defScope s_define_class, [], []⟩
def d_take_many : He.DefD := ⟨("take_many", none), "take_many", "take_many", defArgs s_take_many, defBody s_take_many, defScope s_take_many, [], []⟩
def d_define_station : He.DefD := ⟨("define_station", none), "define_station", "define_station", defArgs s_define_station, defBody s_define_station, defScope s_define_station, [], []⟩
def d_set_value : He.DefD := ⟨("set_value", none), "set_value", "set_value", defArgs s_set_value, defBody s_set_value, defScope s_set_value, [], []⟩
def d_set_service : He.DefD := ⟨("set_service", none), "set_service", "set_service", defArgs s_set_service, defBody s_set_service, defScope s_set_service, [], []⟩
def d_set_arrival : He.DefD := ⟨("set_arrival", none), "set_arrival", "set_arrival", defArgs s_set_arrival, defBody s_set_arrival, defScope s_set_arrival, [], []⟩
def d_set_route : He.DefD := ⟨("set_route", none), "set_route", "set_route", defArgs s_set_route, defBody s_set_route, defScope s_set_route, [], []⟩
def d_set_leave : He.DefD := ⟨("set_leave", none), "set_leave", "set_leave", defArgs s_set_leave, defBody s_set_leave, defScope s_set_leave, [], []⟩
def d_set_population : He.DefD := ⟨("set_population", none), "set_population", "set_population", defArgs s_set_population, defBody s_set_population, defScope s_set_population, [], []⟩
def d_do_line : He.DefD := ⟨("do_line", none), "do_line", "do_line", defArgs s_do_line, defBody s_do_line, defScope s_do_line, [], []⟩
def d_done : He.DefD := ⟨("done", none), "done", "done", defArgs s_done, defBody s_done, defScope s_done, [], []⟩
def d_value_in : He.DefD := ⟨("value_in", none), "value_in", "value_in", defArgs s_value_in, defBody s_value_in, defScope s_value_in, [], []⟩
def d_Refused_init : He.DefD := ⟨("Refused", some "__init__"), "__init__", "Refused.__init__", defArgs s_Refused_init, defBody s_Refused_init, defScope s_Refused_init, [], []⟩
def d_Desk_init : He.DefD := ⟨("Desk", some "__init__"), "__init__", "Desk.__init__", defArgs s_Desk_init, defBody s_Desk_init, defScope s_Desk_init, [], []⟩
def d_ask : He.DefD := ⟨("ask", none), "ask", "ask", defArgs s_ask, defBody s_ask, defScope s_ask, [], []⟩
def d_lines_of : He.DefD := ⟨("lines_of", none), "lines_of", "lines_of", defArgs s_lines_of, defBody s_lines_of, defScope s_lines_of, [], []⟩
def d_asked_text : He.DefD := ⟨("asked_text", none), "asked_text", "asked_text", defArgs s_asked_text, defBody s_asked_text, defScope s_asked_text, [], []⟩
def d_ask_line : He.DefD := ⟨("ask_line", none), "ask_line", "ask_line", defArgs s_ask_line, defBody s_ask_line, defScope s_ask_line, [], []⟩
def d_result_of : He.DefD := ⟨("result_of", none), "result_of", "result_of", defArgs s_result_of, defBody s_result_of, defScope s_result_of, [], []⟩
def d_coded : He.DefD := ⟨("coded", none), "coded", "coded", defArgs s_coded, defBody s_coded, defScope s_coded, [], []⟩
def d_create : He.DefD := ⟨("create", none), "create", "create", defArgs s_create, defBody s_create, defScope s_create, [], []⟩
def d_load : He.DefD := ⟨("load", none), "load", "load", defArgs s_load, defBody s_load, defScope s_load, [], []⟩
def d_amend : He.DefD := ⟨("amend", none), "amend", "amend", defArgs s_amend, defBody s_amend, defScope s_amend, [], []⟩
def d_show_tokens : He.DefD := ⟨("show_tokens", none), "show_tokens", "show_tokens", defArgs s_show_tokens, defBody s_show_tokens, defScope s_show_tokens, [], []⟩
def d_evaluate : He.DefD := ⟨("evaluate", none), "evaluate", "evaluate", defArgs s_evaluate, defBody s_evaluate, defScope s_evaluate, [], []⟩
def d_print_model : He.DefD := ⟨("print_model", none), "print_model", "print_model", defArgs s_print_model, defBody s_print_model, defScope s_print_model, [], []⟩
def d_print_line : He.DefD := ⟨("print_line", none), "print_line", "print_line", defArgs s_print_line, defBody s_print_line, defScope s_print_line, [], []⟩
def d_counts : He.DefD := ⟨("counts", none), "counts", "counts", defArgs s_counts, defBody s_counts, defScope s_counts, [], []⟩
def d_show_station : He.DefD := ⟨("show_station", none), "show_station", "show_station", defArgs s_show_station, defBody s_show_station, defScope s_show_station, [], []⟩
def d_class_name : He.DefD := ⟨("class_name", none), "class_name", "class_name", defArgs s_class_name, defBody s_class_name, defScope s_class_name, [], []⟩
def d_number_of_calls : He.DefD := ⟨("number_of_calls", none), "number_of", "number_of", defArgs s_number_of_calls, defBody s_number_of_calls, defScope s_number_of_calls, [], []⟩
def d_find_station : He.DefD := ⟨("find_station", none), "find_station", "find_station", defArgs s_find_station, defBody s_find_station, defScope s_find_station, [], []⟩
def d_find_class : He.DefD := ⟨("find_class", none), "find_class", "find_class", defArgs s_find_class, defBody s_find_class, defScope s_find_class, [], []⟩
def d_constant : He.DefD := ⟨("constant", none), "constant", "constant", defArgs s_constant, defBody s_constant, defScope s_constant, [], []⟩
def d_asked_place : He.DefD := ⟨("asked_place", none), "asked_place", "asked_place", defArgs s_asked_place, defBody s_asked_place, defScope s_asked_place, [], []⟩
def d_service : He.DefD := ⟨("service", none), "service", "service", defArgs s_service, defBody s_service, defScope s_service, [], []⟩
def d_arrival : He.DefD := ⟨("arrival", none), "arrival", "arrival", defArgs s_arrival, defBody s_arrival, defScope s_arrival, [], []⟩
def d_route : He.DefD := ⟨("route", none), "route", "route", defArgs s_route, defBody s_route, defScope s_route, [], []⟩
def d_leaving : He.DefD := ⟨("leaving", none), "leaving", "leaving", defArgs s_leaving, defBody s_leaving, defScope s_leaving, [], []⟩
def d_out_sum : He.DefD := ⟨("out_sum", none), "out_sum", "out_sum", defArgs s_out_sum, defBody s_out_sum, defScope s_out_sum, [], []⟩
def d_population : He.DefD := ⟨("population", none), "population", "population", defArgs s_population, defBody s_population, defScope s_population, [], []⟩
def d_problems : He.DefD := ⟨("problems", none), "problems", "problems", defArgs s_problems, defBody s_problems, defScope s_problems, [], []⟩
def d_is_equal : He.DefD := ⟨("is_equal", none), "is_equal", "is_equal", defArgs s_is_equal, defBody s_is_equal, defScope s_is_equal, [], []⟩
def d_lacking : He.DefD := ⟨("lacking", none), "lacking", "lacking", defArgs s_lacking, defBody s_lacking, defScope s_lacking, [], []⟩
def d_difference : He.DefD := ⟨("difference", none), "difference", "difference", defArgs s_difference, defBody s_difference, defScope s_difference, [], []⟩
def d_check : He.DefD := ⟨("check", none), "check", "check", defArgs s_check, defBody s_check, defScope s_check, [], []⟩
def d_answered : He.DefD := ⟨("answered", none), "answered", "answered", defArgs s_answered, defBody s_answered, defScope s_answered, [], []⟩
def d_answers : He.DefD := ⟨("answers", none), "answers", "answers", defArgs s_answers, defBody s_answers, defScope s_answers, [], []⟩
def dl0 : List He.DefD := [d_divisor_of, d_reduced, d_plus, d_less, d_times, d_over, d_opposite, d_is_near, d_is_within, d_is_whole_within, d_Station_init, d_Model_init, d_copy_of, d_station_names, d_value_word, d_place_words, d_value_rows, d_station_row, d_canonical_lines, d_sum_of, d_is_used, d_place_problems, d_class_problems, d_problems_of, d_LineError_init]
def dl1 : List He.DefD := [d_need, d_is_letter, d_is_digit, d_name_end, d_digits_end, d_sign_of, d_number_of_tokens, d_power_of_ten, d_number_at, d_name_at, d_symbol_at, d_token_at, d_tokens_of, d_Reader_init, d_Level_init, d_column_next, d_is_next, d_take_if, d_symbol_next, d_unexpected, d_take_end, d_whole_of, d_put_factor, d_take_number, d_take_factor]
def dl2 : List He.DefD := [d_take_closing, d_take_operator, d_take_expression, d_TextError_init, d_take_word, d_take_new_name, d_take_known, d_take_place, d_take_value, d_take_last_value, d_define_constant, d_define_class, d_take_many, d_define_station, d_set_value, d_set_service, d_set_arrival, d_set_route, d_set_leave, d_set_population, d_do_line, d_done, d_value_in, d_Refused_init, d_Desk_init]
def dl3 : List He.DefD := [d_ask, d_lines_of, d_asked_text, d_ask_line, d_result_of, d_coded, d_create, d_load, d_amend, d_show_tokens, d_evaluate, d_print_model, d_print_line, d_counts, d_show_station, d_class_name, d_number_of_calls, d_find_station, d_find_class, d_constant, d_asked_place, d_service, d_arrival, d_route, d_leaving]
def dl4 : List He.DefD := [d_out_sum, d_population, d_problems, d_is_equal, d_lacking, d_difference, d_check, d_answered, d_answers]
def fns : List He.DefD := dl0 ++ dl1 ++ dl2 ++ dl3 ++ dl4
/-! ### facts -/
def fl0 : List He.Fa := [.glo "divisor_of", .glo "reduced", .glo "plus", .glo "less", .glo "times", .glo "over", .glo "opposite", .glo "is_near", .glo "is_within", .glo "is_whole_within", .glo "copy_of", .glo "station_names", .glo "value_word", .glo "place_words", .glo "value_rows", .glo "station_row", .glo "canonical_lines", .glo "sum_of", .glo "is_used", .glo "place_problems", .glo "class_problems", .glo "problems_of", .glo "need", .glo "is_letter", .glo "is_digit", .glo "name_end", .glo "digits_end", .glo "sign_of", .glo "number_of_tokens", .glo "power_of_ten"]
def fl1 : List He.Fa := [.glo "number_at", .glo "name_at", .glo "symbol_at", .glo "token_at", .glo "tokens_of", .glo "column_next", .glo "is_next", .glo "take_if", .glo "symbol_next", .glo "unexpected", .glo "take_end", .glo "whole_of", .glo "put_factor", .glo "take_number", .glo "take_factor", .glo "take_closing", .glo "take_operator", .glo "take_expression", .glo "take_word", .glo "take_new_name", .glo "take_known", .glo "take_place", .glo "take_value", .glo "take_last_value", .glo "define_constant", .glo "define_class", .glo "take_many", .glo "define_station", .glo "set_value", .glo "set_service"]
def fl2 : List He.Fa := [.glo "set_arrival", .glo "set_route", .glo "set_leave", .glo "set_population", .glo "do_line", .glo "done", .glo "value_in", .glo "ask", .glo "lines_of", .glo "asked_text", .glo "ask_line", .glo "result_of", .glo "coded", .glo "create", .glo "load", .glo "amend", .glo "show_tokens", .glo "evaluate", .glo "print_model", .glo "print_line", .glo "counts", .glo "show_station", .glo "class_name", .glo "number_of_calls", .glo "find_station", .glo "find_class", .glo "constant", .glo "asked_place", .glo "service", .glo "arrival"]
def fl3 : List He.Fa := [.glo "route", .glo "leaving", .glo "out_sum", .glo "population", .glo "problems", .glo "is_equal", .glo "lacking", .glo "difference", .glo "check", .glo "answered", .glo "answers", .glo "Station", .glo "Model", .glo "LineError", .glo "Reader", .glo "Level", .glo "TextError", .glo "Refused", .glo "Desk", .glo "NOUGHT", .glo "ONE", .int "FAR" (1000000000), .glo "DISCIPLINES", .int "OTHER_SUM" (1), .int "NO_SERVICE" (2), .int "NOT_USED" (3), .int "BOTH" (4), .int "NEITHER" (5), .int "NAME" (0), .int "NUMBER" (1)]
def fl4 : List He.Fa := [.int "SYMBOL" (2), .int "NO_TOKEN" (1), .int "TOO_LONG" (2), .str "LETTERS" "abcdefghijklmnopqrstuvwxyz", .str "SIGNS" "()*+,-./0123456789:;<=", .str "SYMBOLS" "()*+-/=", .int "SPACE" (32), .int "TAB" (9), .int "COMMENT" (35), .int "POINT" (46), .int "LOW_LINE" (95), .int "MOST_LETTERS" (12), .int "MOST_BEFORE" (9), .int "MOST_BEHIND" (6), .int "UNEXPECTED" (3), .int "UNKNOWN" (4), .int "BY_NOUGHT" (6), .glo "KEYWORDS", .int "KNOWN" (5), .int "OUT_OF_RANGE_statements" (7), .int "TOO_MANY" (8), .int "MOST_CONSTANTS" (16), .int "MOST_CLASSES" (4), .int "MOST_STATIONS" (8), .int "MOST_SERVERS" (100), .int "MOST_CAPACITY" (1000), .int "MOST_RATE" (1000000), .int "MOST_POPULATION" (1000), .int "DELAY" (3), .glo "DEFINITIONS"]
def fl5 : List He.Fa := [.glo "SETTINGS", .int "NO_INSTANCE" (-11), .int "NOT_THERE" (-2), .int "TEXT_ERROR" (-20), .int "OUT_OF_RANGE_calls" (-22), .int "NO_NAME" (-33), .int "FEED" (10), .int "MOST_BYTE" (255), .int "MOST_LINES" (60), .int "MOST_LENGTH" (80), .glo "DEEDS", .glo "NUMBERS", .glo "ROWS", .free "len", .free "abs", .free "ord", .free "int", .free "str", .free "list", .free "dict", .free "range", .free "sorted", .free "enumerate", .free "ValueError", .cls "Station", .mkr "Station", .noat "Station" "name", .noat "Station" "discipline", .noat "Station" "servers", .noat "Station" "capacity"]
def fl6 : List He.Fa := [.cls "Model", .mkr "Model", .noat "Model" "constants", .noat "Model" "classes", .noat "Model" "stations", .noat "Model" "services", .noat "Model" "arrivals", .noat "Model" "routes", .noat "Model" "leaves", .noat "Model" "populations", .cls "Reader", .mkr "Reader", .noat "Reader" "tokens", .noat "Reader" "at", .noat "Reader" "length", .cls "Level", .mkr "Level", .noat "Level" "total", .noat "Level" "sign", .noat "Level" "term", .noat "Level" "operator", .noat "Level" "column", .noat "Level" "is_turned", .cls "Desk", .mkr "Desk", .noat "Desk" "model", .meth "LineError" "__init__", .keep "LineError", .exm "LineError" "LineError" true, .exm "LineError" "TextError" false]
def fl7 : List He.Fa := [.exm "LineError" "Refused" false, .noat "LineError" "column", .noat "LineError" "kind", .meth "TextError" "__init__", .keep "TextError", .exm "TextError" "LineError" false, .exm "TextError" "TextError" true, .exm "TextError" "Refused" false, .noat "TextError" "line", .noat "TextError" "column", .noat "TextError" "kind", .meth "Refused" "__init__", .keep "Refused", .exm "Refused" "LineError" false, .exm "Refused" "TextError" false, .exm "Refused" "Refused" true, .noat "Refused" "row"]
def fas : List He.Fa := fl0 ++ fl1 ++ fl2 ++ fl3 ++ fl4 ++ fl5 ++ fl6 ++ fl7
def t_NOUGHT : List He.Dv := [.int 0, .int 1]
def t_ONE : List He.Dv := [.int 1, .int 1]
def t_DISCIPLINES : List He.Dv := [.str "fifo", .str "lifo", .str "share", .str "delay"]
def t_KEYWORDS : List He.Dv := [.str "let", .str "class", .str "station", .str "serve", .str "arrive", .str "route", .str "leave", .str "population", .str "fifo", .str "lifo", .str "share", .str "delay", .str "servers", .str "capacity"]
def t_NUMBERS : List He.Dv := [.int 0, .int 0, .int 0, .int 0, .int 0, .int 0, .int 1, .int 0, .int 1, .int 1, .int 0, .int 0, .int 0, .int 2, .int 2, .int 4, .int 2, .int 2, .int 1, .int 0, .int 0, .int 0, .int 0]
def t_ROWS : List He.Dv := [.int 0, .int 1, .int 1, .int 1, .int 1, .int 0, .int 0, .int 0, .int 0, .int 0, .int 1, .int 1, .int 1, .int 0, .int 0, .int 0, .int 0, .int 0, .int 0, .int 0, .int 1, .int 1, .int 1]
def t_DEEDS : List He.Dv := [.glo "create", .glo "load", .glo "amend", .glo "show_tokens", .glo "evaluate", .glo "print_model", .glo "print_line", .glo "counts", .glo "show_station", .glo "class_name", .glo "find_station", .glo "find_class", .glo "constant", .glo "service", .glo "arrival", .glo "route", .glo "leaving", .glo "out_sum", .glo "population", .glo "problems", .glo "is_equal", .glo "difference", .glo "check"]
def t_DEFINITIONS : List (Str × He.Dv) := [("let", .glo "define_constant"), ("class", .glo "define_class"), ("station", .glo "define_station")]
def k_DEFINITIONS : List Str := ["let", "class", "station"]
def t_SETTINGS : List (Str × He.Dv) := [("serve", .glo "set_service"), ("arrive", .glo "set_arrival"), ("route", .glo "set_route"), ("leave", .glo "set_leave"), ("population", .glo "set_population")]
def k_SETTINGS : List Str := ["serve", "arrive", "route", "leave", "population"]
def tbs : List He.Tab := [((fun K => He.ga K "DEFINITIONS"), k_DEFINITIONS), ((fun K => He.ga K "SETTINGS"), k_SETTINGS)]
/-- an own exception class over ValueError -/
def oexB (K : PySem.W.Frag) (C : Addr) : Bool := (match K.lookup C with
  | some ⟨.type "type", _, .cls cd, sl⟩ => (match cd.mro, sl.toList with
    | .ref C' :: bm, [_, _, _, _, some (.builtin n), _] => C' == C && n == "ValueError.__new__" && !cd.hasDel && cd.hasDict && PySem.HandSPX.refsVE bm
    | _, _ => false)
  | _ => false) && (He.eqO (PySem.W.findIn K (.ref C) "__setattr__") (some (some (.builtin "object.__setattr__"))) && (decide (PySem.W.subIn K (.ref C) (.type "BaseException") = some true) &&
    (decide (PySem.W.typeIn K (.ref C) = some (.type "type")) && (PySem.W.keepIn K (.ref C) && xfB K C))))
theorem oexB_ok {K : PySem.W.Frag} {C : Addr} (h : oexB K C = true) : OexC K C ∧ XfC K C := by
  obtain ⟨h1, h⟩ := He.ba h
  obtain ⟨h2, h⟩ := He.ba h
  obtain ⟨h3, h⟩ := He.ba h
  obtain ⟨h4, h⟩ := He.ba h
  obtain ⟨h5, h6⟩ := He.ba h
  refine ⟨⟨?_, He.eqO_ok h2, of_decide_eq_true h3, of_decide_eq_true h4, h5⟩, xfB_ok h6⟩
  split at h1
  · rename_i dd cd sl ho
    split at h1
    · rename_i C' bm k0 k1 k2 k3 n k5 hm hs
      simp only [Bool.and_eq_true, beq_iff_eq, Bool.not_eq_true'] at h1
      obtain ⟨⟨⟨⟨rfl, rfl⟩, hdel⟩, hdd⟩, ht⟩ := h1
      obtain ⟨nm, bs, mro, ns, qn, hd, sn, sub, ab, col, del⟩ := cd
      dsimp only at hm hdel hdd
      subst hm hdel hdd
      have hsl : sl = #[k0, k1, k2, k3, some (.builtin "ValueError.__new__"), k5] := by
        obtain ⟨l⟩ := sl
        simp only at hs
        rw [hs]
      subst hsl
      exact ⟨nm, qn, ns, bs, bm, sn, sub, ab, col, dd, k0, k1, k2, k3, k5, ho, ht⟩
    · cases h1
  · cases h1
/-- an object without a dict -/
def nodB (K : PySem.W.Frag) (x : Str) : Bool := match K.lookup (He.ga K x) with
  | some ⟨_, none, _, _⟩ => true
  | _ => false
theorem nodB_ok {K : PySem.W.Frag} {x : Str} (h : nodB K x = true) : ∃ o, K.lookup (He.ga K x) = some o ∧ o.dict = none := by
  unfold nodB at h
  split at h
  · rename_i e
    exact ⟨_, e, rfl⟩
  · cases h
def exs (K : PySem.W.Frag) : List Bool := [He.tupB K "NOUGHT" t_NOUGHT, He.tupB K "ONE" t_ONE, He.tupB K "DISCIPLINES" t_DISCIPLINES, He.tupB K "KEYWORDS" t_KEYWORDS, He.tupB K "NUMBERS" t_NUMBERS, He.tupB K "ROWS" t_ROWS, He.tupB K "DEEDS" t_DEEDS, He.valsB K (He.ga K "DEFINITIONS") t_DEFINITIONS, He.valsB K (He.ga K "SETTINGS") t_SETTINGS, oexB K (He.ga K "LineError"), oexB K (He.ga K "TextError"), oexB K (He.ga K "Refused"), decide (PySem.W.typeIn K (.ref (He.ma K (He.ga K "LineError") "__init__")) = some (.type "function")), decide (PySem.W.typeIn K (.ref (He.ma K (He.ga K "TextError") "__init__")) = some (.type "function")), decide (PySem.W.typeIn K (.ref (He.ma K (He.ga K "Refused") "__init__")) = some (.type "function")), nodB K "DISCIPLINES"]
/-- what the end leans on -/
structure Says (w : World) (K : PySem.W.Frag) : Prop where
  t : He.SaysT fas fns tbs w K
  ex : (exs K).all id = true
theorem Says.exi {w : World} {K : PySem.W.Frag} (c : Says w K) (i : Nat) {b : Bool} (h : (exs K)[i]? = some b) : b = true :=
  List.all_eq_true.mp c.ex b (List.mem_of_getElem? h)
/-- all that is known of the module -/
structure Txt (w : World) (K : PySem.W.Frag) (mg : Str → Option Value) : Prop where
  c : Says w K
  g : ∃ h : Heap, K.In h ∧ h.Ns mainGlobals mg
section
variable {w : World} {K : PySem.W.Frag} {mg : Str → Option Value}
theorem Txt.fact (T : Txt w K mg) (i : Nat) {f : He.Fa} (h : fas[i]? = some f := by rfl) : f.ok K = true := T.c.t.d.fact i h
theorem Txt.g_divisor_of (T : Txt w K mg) : mg "divisor_of" = some (.ref (He.fAd K d_divisor_of.at_)) := by
  obtain ⟨h, X, G⟩ := T.g
  exact He.glo_ok X G (T.fact 0 (f := .glo "divisor_of") rfl)
theorem Txt.g_reduced (T : Txt w K mg) : mg "reduced" = some (.ref (He.fAd K d_reduced.at_)) := by
  obtain ⟨h, X, G⟩ := T.g
  exact He.glo_ok X G (T.fact 1 (f := .glo "reduced") rfl)
theorem Txt.g_plus (T : Txt w K mg) : mg "plus" = some (.ref (He.fAd K d_plus.at_)) := by
  obtain ⟨h, X, G⟩ := T.g
  exact He.glo_ok X G (T.fact 2 (f := .glo "plus") rfl)
theorem Txt.g_less (T : Txt w K mg) : mg "less" = some (.ref (He.fAd K d_less.at_)) := by
  obtain ⟨h, X, G⟩ := T.g
  exact He.glo_ok X G (T.fact 3 (f := .glo "less") rfl)
theorem Txt.g_times (T : Txt w K mg) : mg "times" = some (.ref (He.fAd K d_times.at_)) := by
  obtain ⟨h, X, G⟩ := T.g
  exact He.glo_ok X G (T.fact 4 (f := .glo "times") rfl)
theorem Txt.g_over (T : Txt w K mg) : mg "over" = some (.ref (He.fAd K d_over.at_)) := by
  obtain ⟨h, X, G⟩ := T.g
  exact He.glo_ok X G (T.fact 5 (f := .glo "over") rfl)
theorem Txt.g_opposite (T : Txt w K mg) : mg "opposite" = some (.ref (He.fAd K d_opposite.at_)) := by
  obtain ⟨h, X, G⟩ := T.g
  exact He.glo_ok X G (T.fact 6 (f := .glo "opposite") rfl)
theorem Txt.g_is_near (T : Txt w K mg) : mg "is_near" = some (.ref (He.fAd K d_is_near.at_)) := by
  obtain ⟨h, X, G⟩ := T.g
  exact He.glo_ok X G (T.fact 7 (f := .glo "is_near") rfl)
theorem Txt.g_is_within (T : Txt w K mg) : mg "is_within" = some (.ref (He.fAd K d_is_within.at_)) := by
  obtain ⟨h, X, G⟩ := T.g
  exact He.glo_ok X G (T.fact 8 (f := .glo "is_within") rfl)
theorem Txt.g_is_whole_within (T : Txt w K mg) : mg "is_whole_within" = some (.ref (He.fAd K d_is_whole_within.at_)) := by
  obtain ⟨h, X, G⟩ := T.g
  exact He.glo_ok X G (T.fact 9 (f := .glo "is_whole_within") rfl)
theorem Txt.g_copy_of (T : Txt w K mg) : mg "copy_of" = some (.ref (He.fAd K d_copy_of.at_)) := by
  obtain ⟨h, X, G⟩ := T.g
  exact He.glo_ok X G (T.fact 10 (f := .glo "copy_of") rfl)
theorem Txt.g_station_names (T : Txt w K mg) : mg "station_names" = some (.ref (He.fAd K d_station_names.at_)) := by
  obtain ⟨h, X, G⟩ := T.g
  exact He.glo_ok X G (T.fact 11 (f := .glo "station_names") rfl)
theorem Txt.g_value_word (T : Txt w K mg) : mg "value_word" = some (.ref (He.fAd K d_value_word.at_)) := by
  obtain ⟨h, X, G⟩ := T.g
  exact He.glo_ok X G (T.fact 12 (f := .glo "value_word") rfl)
theorem Txt.g_place_words (T : Txt w K mg) : mg "place_words" = some (.ref (He.fAd K d_place_words.at_)) := by
  obtain ⟨h, X, G⟩ := T.g
  exact He.glo_ok X G (T.fact 13 (f := .glo "place_words") rfl)
theorem Txt.g_value_rows (T : Txt w K mg) : mg "value_rows" = some (.ref (He.fAd K d_value_rows.at_)) := by
  obtain ⟨h, X, G⟩ := T.g
  exact He.glo_ok X G (T.fact 14 (f := .glo "value_rows") rfl)
theorem Txt.g_station_row (T : Txt w K mg) : mg "station_row" = some (.ref (He.fAd K d_station_row.at_)) := by
  obtain ⟨h, X, G⟩ := T.g
  exact He.glo_ok X G (T.fact 15 (f := .glo "station_row") rfl)
theorem Txt.g_canonical_lines (T : Txt w K mg) : mg "canonical_lines" = some (.ref (He.fAd K d_canonical_lines.at_)) := by
  obtain ⟨h, X, G⟩ := T.g
  exact He.glo_ok X G (T.fact 16 (f := .glo "canonical_lines") rfl)
theorem Txt.g_sum_of (T : Txt w K mg) : mg "sum_of" = some (.ref (He.fAd K d_sum_of.at_)) := by
  obtain ⟨h, X, G⟩ := T.g
  exact He.glo_ok X G (T.fact 17 (f := .glo "sum_of") rfl)
theorem Txt.g_is_used (T : Txt w K mg) : mg "is_used" = some (.ref (He.fAd K d_is_used.at_)) := by
  obtain ⟨h, X, G⟩ := T.g
  exact He.glo_ok X G (T.fact 18 (f := .glo "is_used") rfl)
theorem Txt.g_place_problems (T : Txt w K mg) : mg "place_problems" = some (.ref (He.fAd K d_place_problems.at_)) := by
  obtain ⟨h, X, G⟩ := T.g
  exact He.glo_ok X G (T.fact 19 (f := .glo "place_problems") rfl)
theorem Txt.g_class_problems (T : Txt w K mg) : mg "class_problems" = some (.ref (He.fAd K d_class_problems.at_)) := by
  obtain ⟨h, X, G⟩ := T.g
  exact He.glo_ok X G (T.fact 20 (f := .glo "class_problems") rfl)
theorem Txt.g_problems_of (T : Txt w K mg) : mg "problems_of" = some (.ref (He.fAd K d_problems_of.at_)) := by
  obtain ⟨h, X, G⟩ := T.g
  exact He.glo_ok X G (T.fact 21 (f := .glo "problems_of") rfl)
theorem Txt.g_need (T : Txt w K mg) : mg "need" = some (.ref (He.fAd K d_need.at_)) := by
  obtain ⟨h, X, G⟩ := T.g
  exact He.glo_ok X G (T.fact 22 (f := .glo "need") rfl)
theorem Txt.g_is_letter (T : Txt w K mg) : mg "is_letter" = some (.ref (He.fAd K d_is_letter.at_)) := by
  obtain ⟨h, X, G⟩ := T.g
  exact He.glo_ok X G (T.fact 23 (f := .glo "is_letter") rfl)
theorem Txt.g_is_digit (T : Txt w K mg) : mg "is_digit" = some (.ref (He.fAd K d_is_digit.at_)) := by
  obtain ⟨h, X, G⟩ := T.g
  exact He.glo_ok X G (T.fact 24 (f := .glo "is_digit") rfl)
theorem Txt.g_name_end (T : Txt w K mg) : mg "name_end" = some (.ref (He.fAd K d_name_end.at_)) := by
  obtain ⟨h, X, G⟩ := T.g
  exact He.glo_ok X G (T.fact 25 (f := .glo "name_end") rfl)
theorem Txt.g_digits_end (T : Txt w K mg) : mg "digits_end" = some (.ref (He.fAd K d_digits_end.at_)) := by
  obtain ⟨h, X, G⟩ := T.g
  exact He.glo_ok X G (T.fact 26 (f := .glo "digits_end") rfl)
theorem Txt.g_sign_of (T : Txt w K mg) : mg "sign_of" = some (.ref (He.fAd K d_sign_of.at_)) := by
  obtain ⟨h, X, G⟩ := T.g
  exact He.glo_ok X G (T.fact 27 (f := .glo "sign_of") rfl)
theorem Txt.g_number_of_tokens (T : Txt w K mg) : mg "number_of_tokens" = some (.ref (He.fAd K d_number_of_tokens.at_)) := by
  obtain ⟨h, X, G⟩ := T.g
  exact He.glo_ok X G (T.fact 28 (f := .glo "number_of_tokens") rfl)
theorem Txt.g_power_of_ten (T : Txt w K mg) : mg "power_of_ten" = some (.ref (He.fAd K d_power_of_ten.at_)) := by
  obtain ⟨h, X, G⟩ := T.g
  exact He.glo_ok X G (T.fact 29 (f := .glo "power_of_ten") rfl)
theorem Txt.g_number_at (T : Txt w K mg) : mg "number_at" = some (.ref (He.fAd K d_number_at.at_)) := by
  obtain ⟨h, X, G⟩ := T.g
  exact He.glo_ok X G (T.fact 30 (f := .glo "number_at") rfl)
theorem Txt.g_name_at (T : Txt w K mg) : mg "name_at" = some (.ref (He.fAd K d_name_at.at_)) := by
  obtain ⟨h, X, G⟩ := T.g
  exact He.glo_ok X G (T.fact 31 (f := .glo "name_at") rfl)
theorem Txt.g_symbol_at (T : Txt w K mg) : mg "symbol_at" = some (.ref (He.fAd K d_symbol_at.at_)) := by
  obtain ⟨h, X, G⟩ := T.g
  exact He.glo_ok X G (T.fact 32 (f := .glo "symbol_at") rfl)
theorem Txt.g_token_at (T : Txt w K mg) : mg "token_at" = some (.ref (He.fAd K d_token_at.at_)) := by
  obtain ⟨h, X, G⟩ := T.g
  exact He.glo_ok X G (T.fact 33 (f := .glo "token_at") rfl)
theorem Txt.g_tokens_of (T : Txt w K mg) : mg "tokens_of" = some (.ref (He.fAd K d_tokens_of.at_)) := by
  obtain ⟨h, X, G⟩ := T.g
  exact He.glo_ok X G (T.fact 34 (f := .glo "tokens_of") rfl)
theorem Txt.g_column_next (T : Txt w K mg) : mg "column_next" = some (.ref (He.fAd K d_column_next.at_)) := by
  obtain ⟨h, X, G⟩ := T.g
  exact He.glo_ok X G (T.fact 35 (f := .glo "column_next") rfl)
theorem Txt.g_is_next (T : Txt w K mg) : mg "is_next" = some (.ref (He.fAd K d_is_next.at_)) := by
  obtain ⟨h, X, G⟩ := T.g
  exact He.glo_ok X G (T.fact 36 (f := .glo "is_next") rfl)
theorem Txt.g_take_if (T : Txt w K mg) : mg "take_if" = some (.ref (He.fAd K d_take_if.at_)) := by
  obtain ⟨h, X, G⟩ := T.g
  exact He.glo_ok X G (T.fact 37 (f := .glo "take_if") rfl)
theorem Txt.g_symbol_next (T : Txt w K mg) : mg "symbol_next" = some (.ref (He.fAd K d_symbol_next.at_)) := by
  obtain ⟨h, X, G⟩ := T.g
  exact He.glo_ok X G (T.fact 38 (f := .glo "symbol_next") rfl)
theorem Txt.g_unexpected (T : Txt w K mg) : mg "unexpected" = some (.ref (He.fAd K d_unexpected.at_)) := by
  obtain ⟨h, X, G⟩ := T.g
  exact He.glo_ok X G (T.fact 39 (f := .glo "unexpected") rfl)
theorem Txt.g_take_end (T : Txt w K mg) : mg "take_end" = some (.ref (He.fAd K d_take_end.at_)) := by
  obtain ⟨h, X, G⟩ := T.g
  exact He.glo_ok X G (T.fact 40 (f := .glo "take_end") rfl)
theorem Txt.g_whole_of (T : Txt w K mg) : mg "whole_of" = some (.ref (He.fAd K d_whole_of.at_)) := by
  obtain ⟨h, X, G⟩ := T.g
  exact He.glo_ok X G (T.fact 41 (f := .glo "whole_of") rfl)
theorem Txt.g_put_factor (T : Txt w K mg) : mg "put_factor" = some (.ref (He.fAd K d_put_factor.at_)) := by
  obtain ⟨h, X, G⟩ := T.g
  exact He.glo_ok X G (T.fact 42 (f := .glo "put_factor") rfl)
theorem Txt.g_take_number (T : Txt w K mg) : mg "take_number" = some (.ref (He.fAd K d_take_number.at_)) := by
  obtain ⟨h, X, G⟩ := T.g
  exact He.glo_ok X G (T.fact 43 (f := .glo "take_number") rfl)
theorem Txt.g_take_factor (T : Txt w K mg) : mg "take_factor" = some (.ref (He.fAd K d_take_factor.at_)) := by
  obtain ⟨h, X, G⟩ := T.g
  exact He.glo_ok X G (T.fact 44 (f := .glo "take_factor") rfl)
theorem Txt.g_take_closing (T : Txt w K mg) : mg "take_closing" = some (.ref (He.fAd K d_take_closing.at_)) := by
  obtain ⟨h, X, G⟩ := T.g
  exact He.glo_ok X G (T.fact 45 (f := .glo "take_closing") rfl)
theorem Txt.g_take_operator (T : Txt w K mg) : mg "take_operator" = some (.ref (He.fAd K d_take_operator.at_)) := by
  obtain ⟨h, X, G⟩ := T.g
  exact He.glo_ok X G (T.fact 46 (f := .glo "take_operator") rfl)
theorem Txt.g_take_expression (T : Txt w K mg) : mg "take_expression" = some (.ref (He.fAd K d_take_expression.at_)) := by
  obtain ⟨h, X, G⟩ := T.g
  exact He.glo_ok X G (T.fact 47 (f := .glo "take_expression") rfl)
theorem Txt.g_take_word (T : Txt w K mg) : mg "take_word" = some (.ref (He.fAd K d_take_word.at_)) := by
  obtain ⟨h, X, G⟩ := T.g
  exact He.glo_ok X G (T.fact 48 (f := .glo "take_word") rfl)
theorem Txt.g_take_new_name (T : Txt w K mg) : mg "take_new_name" = some (.ref (He.fAd K d_take_new_name.at_)) := by
  obtain ⟨h, X, G⟩ := T.g
  exact He.glo_ok X G (T.fact 49 (f := .glo "take_new_name") rfl)
theorem Txt.g_take_known (T : Txt w K mg) : mg "take_known" = some (.ref (He.fAd K d_take_known.at_)) := by
  obtain ⟨h, X, G⟩ := T.g
  exact He.glo_ok X G (T.fact 50 (f := .glo "take_known") rfl)
theorem Txt.g_take_place (T : Txt w K mg) : mg "take_place" = some (.ref (He.fAd K d_take_place.at_)) := by
  obtain ⟨h, X, G⟩ := T.g
  exact He.glo_ok X G (T.fact 51 (f := .glo "take_place") rfl)
theorem Txt.g_take_value (T : Txt w K mg) : mg "take_value" = some (.ref (He.fAd K d_take_value.at_)) := by
  obtain ⟨h, X, G⟩ := T.g
  exact He.glo_ok X G (T.fact 52 (f := .glo "take_value") rfl)
theorem Txt.g_take_last_value (T : Txt w K mg) : mg "take_last_value" = some (.ref (He.fAd K d_take_last_value.at_)) := by
  obtain ⟨h, X, G⟩ := T.g
  exact He.glo_ok X G (T.fact 53 (f := .glo "take_last_value") rfl)
theorem Txt.g_define_constant (T : Txt w K mg) : mg "define_constant" = some (.ref (He.fAd K d_define_constant.at_)) := by
  obtain ⟨h, X, G⟩ := T.g
  exact He.glo_ok X G (T.fact 54 (f := .glo "define_constant") rfl)
theorem Txt.g_define_class (T : Txt w K mg) : mg "define_class" = some (.ref (He.fAd K d_define_class.at_)) := by
  obtain ⟨h, X, G⟩ := T.g
  exact He.glo_ok X G (T.fact 55 (f := .glo "define_class") rfl)
theorem Txt.g_take_many (T : Txt w K mg) : mg "take_many" = some (.ref (He.fAd K d_take_many.at_)) := by
  obtain ⟨h, X, G⟩ := T.g
  exact He.glo_ok X G (T.fact 56 (f := .glo "take_many") rfl)
theorem Txt.g_define_station (T : Txt w K mg) : mg "define_station" = some (.ref (He.fAd K d_define_station.at_)) := by
  obtain ⟨h, X, G⟩ := T.g
  exact He.glo_ok X G (T.fact 57 (f := .glo "define_station") rfl)
theorem Txt.g_set_value (T : Txt w K mg) : mg "set_value" = some (.ref (He.fAd K d_set_value.at_)) := by
  obtain ⟨h, X, G⟩ := T.g
  exact He.glo_ok X G (T.fact 58 (f := .glo "set_value") rfl)
theorem Txt.g_set_service (T : Txt w K mg) : mg "set_service" = some (.ref (He.fAd K d_set_service.at_)) := by
  obtain ⟨h, X, G⟩ := T.g
  exact He.glo_ok X G (T.fact 59 (f := .glo "set_service") rfl)
theorem Txt.g_set_arrival (T : Txt w K mg) : mg "set_arrival" = some (.ref (He.fAd K d_set_arrival.at_)) := by
  obtain ⟨h, X, G⟩ := T.g
  exact He.glo_ok X G (T.fact 60 (f := .glo "set_arrival") rfl)
theorem Txt.g_set_route (T : Txt w K mg) : mg "set_route" = some (.ref (He.fAd K d_set_route.at_)) := by
  obtain ⟨h, X, G⟩ := T.g
  exact He.glo_ok X G (T.fact 61 (f := .glo "set_route") rfl)
theorem Txt.g_set_leave (T : Txt w K mg) : mg "set_leave" = some (.ref (He.fAd K d_set_leave.at_)) := by
  obtain ⟨h, X, G⟩ := T.g
  exact He.glo_ok X G (T.fact 62 (f := .glo "set_leave") rfl)
theorem Txt.g_set_population (T : Txt w K mg) : mg "set_population" = some (.ref (He.fAd K d_set_population.at_)) := by
  obtain ⟨h, X, G⟩ := T.g
  exact He.glo_ok X G (T.fact 63 (f := .glo "set_population") rfl)
theorem Txt.g_do_line (T : Txt w K mg) : mg "do_line" = some (.ref (He.fAd K d_do_line.at_)) := by
  obtain ⟨h, X, G⟩ := T.g
  exact He.glo_ok X G (T.fact 64 (f := .glo "do_line") rfl)
theorem Txt.g_done (T : Txt w K mg) : mg "done" = some (.ref (He.fAd K d_done.at_)) := by
  obtain ⟨h, X, G⟩ := T.g
  exact He.glo_ok X G (T.fact 65 (f := .glo "done") rfl)
theorem Txt.g_value_in (T : Txt w K mg) : mg "value_in" = some (.ref (He.fAd K d_value_in.at_)) := by
  obtain ⟨h, X, G⟩ := T.g
  exact He.glo_ok X G (T.fact 66 (f := .glo "value_in") rfl)
theorem Txt.g_ask (T : Txt w K mg) : mg "ask" = some (.ref (He.fAd K d_ask.at_)) := by
  obtain ⟨h, X, G⟩ := T.g
  exact He.glo_ok X G (T.fact 67 (f := .glo "ask") rfl)
theorem Txt.g_lines_of (T : Txt w K mg) : mg "lines_of" = some (.ref (He.fAd K d_lines_of.at_)) := by
  obtain ⟨h, X, G⟩ := T.g
  exact He.glo_ok X G (T.fact 68 (f := .glo "lines_of") rfl)
theorem Txt.g_asked_text (T : Txt w K mg) : mg "asked_text" = some (.ref (He.fAd K d_asked_text.at_)) := by
  obtain ⟨h, X, G⟩ := T.g
  exact He.glo_ok X G (T.fact 69 (f := .glo "asked_text") rfl)
theorem Txt.g_ask_line (T : Txt w K mg) : mg "ask_line" = some (.ref (He.fAd K d_ask_line.at_)) := by
  obtain ⟨h, X, G⟩ := T.g
  exact He.glo_ok X G (T.fact 70 (f := .glo "ask_line") rfl)
theorem Txt.g_result_of (T : Txt w K mg) : mg "result_of" = some (.ref (He.fAd K d_result_of.at_)) := by
  obtain ⟨h, X, G⟩ := T.g
  exact He.glo_ok X G (T.fact 71 (f := .glo "result_of") rfl)
theorem Txt.g_coded (T : Txt w K mg) : mg "coded" = some (.ref (He.fAd K d_coded.at_)) := by
  obtain ⟨h, X, G⟩ := T.g
  exact He.glo_ok X G (T.fact 72 (f := .glo "coded") rfl)
theorem Txt.g_create (T : Txt w K mg) : mg "create" = some (.ref (He.fAd K d_create.at_)) := by
  obtain ⟨h, X, G⟩ := T.g
  exact He.glo_ok X G (T.fact 73 (f := .glo "create") rfl)
theorem Txt.g_load (T : Txt w K mg) : mg "load" = some (.ref (He.fAd K d_load.at_)) := by
  obtain ⟨h, X, G⟩ := T.g
  exact He.glo_ok X G (T.fact 74 (f := .glo "load") rfl)
theorem Txt.g_amend (T : Txt w K mg) : mg "amend" = some (.ref (He.fAd K d_amend.at_)) := by
  obtain ⟨h, X, G⟩ := T.g
  exact He.glo_ok X G (T.fact 75 (f := .glo "amend") rfl)
theorem Txt.g_show_tokens (T : Txt w K mg) : mg "show_tokens" = some (.ref (He.fAd K d_show_tokens.at_)) := by
  obtain ⟨h, X, G⟩ := T.g
  exact He.glo_ok X G (T.fact 76 (f := .glo "show_tokens") rfl)
theorem Txt.g_evaluate (T : Txt w K mg) : mg "evaluate" = some (.ref (He.fAd K d_evaluate.at_)) := by
  obtain ⟨h, X, G⟩ := T.g
  exact He.glo_ok X G (T.fact 77 (f := .glo "evaluate") rfl)
theorem Txt.g_print_model (T : Txt w K mg) : mg "print_model" = some (.ref (He.fAd K d_print_model.at_)) := by
  obtain ⟨h, X, G⟩ := T.g
  exact He.glo_ok X G (T.fact 78 (f := .glo "print_model") rfl)
theorem Txt.g_print_line (T : Txt w K mg) : mg "print_line" = some (.ref (He.fAd K d_print_line.at_)) := by
  obtain ⟨h, X, G⟩ := T.g
  exact He.glo_ok X G (T.fact 79 (f := .glo "print_line") rfl)
theorem Txt.g_counts (T : Txt w K mg) : mg "counts" = some (.ref (He.fAd K d_counts.at_)) := by
  obtain ⟨h, X, G⟩ := T.g
  exact He.glo_ok X G (T.fact 80 (f := .glo "counts") rfl)
theorem Txt.g_show_station (T : Txt w K mg) : mg "show_station" = some (.ref (He.fAd K d_show_station.at_)) := by
  obtain ⟨h, X, G⟩ := T.g
  exact He.glo_ok X G (T.fact 81 (f := .glo "show_station") rfl)
theorem Txt.g_class_name (T : Txt w K mg) : mg "class_name" = some (.ref (He.fAd K d_class_name.at_)) := by
  obtain ⟨h, X, G⟩ := T.g
  exact He.glo_ok X G (T.fact 82 (f := .glo "class_name") rfl)
theorem Txt.g_number_of_calls (T : Txt w K mg) : mg "number_of_calls" = some (.ref (He.fAd K d_number_of_calls.at_)) := by
  obtain ⟨h, X, G⟩ := T.g
  exact He.glo_ok X G (T.fact 83 (f := .glo "number_of_calls") rfl)
theorem Txt.g_find_station (T : Txt w K mg) : mg "find_station" = some (.ref (He.fAd K d_find_station.at_)) := by
  obtain ⟨h, X, G⟩ := T.g
  exact He.glo_ok X G (T.fact 84 (f := .glo "find_station") rfl)
theorem Txt.g_find_class (T : Txt w K mg) : mg "find_class" = some (.ref (He.fAd K d_find_class.at_)) := by
  obtain ⟨h, X, G⟩ := T.g
  exact He.glo_ok X G (T.fact 85 (f := .glo "find_class") rfl)
theorem Txt.g_constant (T : Txt w K mg) : mg "constant" = some (.ref (He.fAd K d_constant.at_)) := by
  obtain ⟨h, X, G⟩ := T.g
  exact He.glo_ok X G (T.fact 86 (f := .glo "constant") rfl)
theorem Txt.g_asked_place (T : Txt w K mg) : mg "asked_place" = some (.ref (He.fAd K d_asked_place.at_)) := by
  obtain ⟨h, X, G⟩ := T.g
  exact He.glo_ok X G (T.fact 87 (f := .glo "asked_place") rfl)
theorem Txt.g_service (T : Txt w K mg) : mg "service" = some (.ref (He.fAd K d_service.at_)) := by
  obtain ⟨h, X, G⟩ := T.g
  exact He.glo_ok X G (T.fact 88 (f := .glo "service") rfl)
theorem Txt.g_arrival (T : Txt w K mg) : mg "arrival" = some (.ref (He.fAd K d_arrival.at_)) := by
  obtain ⟨h, X, G⟩ := T.g
  exact He.glo_ok X G (T.fact 89 (f := .glo "arrival") rfl)
theorem Txt.g_route (T : Txt w K mg) : mg "route" = some (.ref (He.fAd K d_route.at_)) := by
  obtain ⟨h, X, G⟩ := T.g
  exact He.glo_ok X G (T.fact 90 (f := .glo "route") rfl)
theorem Txt.g_leaving (T : Txt w K mg) : mg "leaving" = some (.ref (He.fAd K d_leaving.at_)) := by
  obtain ⟨h, X, G⟩ := T.g
  exact He.glo_ok X G (T.fact 91 (f := .glo "leaving") rfl)
theorem Txt.g_out_sum (T : Txt w K mg) : mg "out_sum" = some (.ref (He.fAd K d_out_sum.at_)) := by
  obtain ⟨h, X, G⟩ := T.g
  exact He.glo_ok X G (T.fact 92 (f := .glo "out_sum") rfl)
theorem Txt.g_population (T : Txt w K mg) : mg "population" = some (.ref (He.fAd K d_population.at_)) := by
  obtain ⟨h, X, G⟩ := T.g
  exact He.glo_ok X G (T.fact 93 (f := .glo "population") rfl)
theorem Txt.g_problems (T : Txt w K mg) : mg "problems" = some (.ref (He.fAd K d_problems.at_)) := by
  obtain ⟨h, X, G⟩ := T.g
  exact He.glo_ok X G (T.fact 94 (f := .glo "problems") rfl)
theorem Txt.g_is_equal (T : Txt w K mg) : mg "is_equal" = some (.ref (He.fAd K d_is_equal.at_)) := by
  obtain ⟨h, X, G⟩ := T.g
  exact He.glo_ok X G (T.fact 95 (f := .glo "is_equal") rfl)
theorem Txt.g_lacking (T : Txt w K mg) : mg "lacking" = some (.ref (He.fAd K d_lacking.at_)) := by
  obtain ⟨h, X, G⟩ := T.g
  exact He.glo_ok X G (T.fact 96 (f := .glo "lacking") rfl)
theorem Txt.g_difference (T : Txt w K mg) : mg "difference" = some (.ref (He.fAd K d_difference.at_)) := by
  obtain ⟨h, X, G⟩ := T.g
  exact He.glo_ok X G (T.fact 97 (f := .glo "difference") rfl)
theorem Txt.g_check (T : Txt w K mg) : mg "check" = some (.ref (He.fAd K d_check.at_)) := by
  obtain ⟨h, X, G⟩ := T.g
  exact He.glo_ok X G (T.fact 98 (f := .glo "check") rfl)
theorem Txt.g_answered (T : Txt w K mg) : mg "answered" = some (.ref (He.fAd K d_answered.at_)) := by
  obtain ⟨h, X, G⟩ := T.g
  exact He.glo_ok X G (T.fact 99 (f := .glo "answered") rfl)
theorem Txt.g_answers (T : Txt w K mg) : mg "answers" = some (.ref (He.fAd K d_answers.at_)) := by
  obtain ⟨h, X, G⟩ := T.g
  exact He.glo_ok X G (T.fact 100 (f := .glo "answers") rfl)
theorem Txt.g_Station (T : Txt w K mg) : mg "Station" = some (.ref (He.ga K "Station")) := by
  obtain ⟨h, X, G⟩ := T.g
  exact He.glo_ok X G (T.fact 101 (f := .glo "Station") rfl)
theorem Txt.g_Model (T : Txt w K mg) : mg "Model" = some (.ref (He.ga K "Model")) := by
  obtain ⟨h, X, G⟩ := T.g
  exact He.glo_ok X G (T.fact 102 (f := .glo "Model") rfl)
theorem Txt.g_LineError (T : Txt w K mg) : mg "LineError" = some (.ref (He.ga K "LineError")) := by
  obtain ⟨h, X, G⟩ := T.g
  exact He.glo_ok X G (T.fact 103 (f := .glo "LineError") rfl)
theorem Txt.g_Reader (T : Txt w K mg) : mg "Reader" = some (.ref (He.ga K "Reader")) := by
  obtain ⟨h, X, G⟩ := T.g
  exact He.glo_ok X G (T.fact 104 (f := .glo "Reader") rfl)
theorem Txt.g_Level (T : Txt w K mg) : mg "Level" = some (.ref (He.ga K "Level")) := by
  obtain ⟨h, X, G⟩ := T.g
  exact He.glo_ok X G (T.fact 105 (f := .glo "Level") rfl)
theorem Txt.g_TextError (T : Txt w K mg) : mg "TextError" = some (.ref (He.ga K "TextError")) := by
  obtain ⟨h, X, G⟩ := T.g
  exact He.glo_ok X G (T.fact 106 (f := .glo "TextError") rfl)
theorem Txt.g_Refused (T : Txt w K mg) : mg "Refused" = some (.ref (He.ga K "Refused")) := by
  obtain ⟨h, X, G⟩ := T.g
  exact He.glo_ok X G (T.fact 107 (f := .glo "Refused") rfl)
theorem Txt.g_Desk (T : Txt w K mg) : mg "Desk" = some (.ref (He.ga K "Desk")) := by
  obtain ⟨h, X, G⟩ := T.g
  exact He.glo_ok X G (T.fact 108 (f := .glo "Desk") rfl)
theorem Txt.g_NOUGHT (T : Txt w K mg) : mg "NOUGHT" = some (.ref (He.ga K "NOUGHT")) := by
  obtain ⟨h, X, G⟩ := T.g
  exact He.glo_ok X G (T.fact 109 (f := .glo "NOUGHT") rfl)
theorem Txt.g_ONE (T : Txt w K mg) : mg "ONE" = some (.ref (He.ga K "ONE")) := by
  obtain ⟨h, X, G⟩ := T.g
  exact He.glo_ok X G (T.fact 110 (f := .glo "ONE") rfl)
theorem Txt.int_FAR (T : Txt w K mg) : ∃ t, mg "FAR" = some (.int (1000000000) t) := by
  obtain ⟨h, X, G⟩ := T.g
  exact He.int_ok X G (T.fact 111 (f := .int "FAR" (1000000000)) rfl)
theorem Txt.g_DISCIPLINES (T : Txt w K mg) : mg "DISCIPLINES" = some (.ref (He.ga K "DISCIPLINES")) := by
  obtain ⟨h, X, G⟩ := T.g
  exact He.glo_ok X G (T.fact 112 (f := .glo "DISCIPLINES") rfl)
theorem Txt.int_OTHER_SUM (T : Txt w K mg) : ∃ t, mg "OTHER_SUM" = some (.int (1) t) := by
  obtain ⟨h, X, G⟩ := T.g
  exact He.int_ok X G (T.fact 113 (f := .int "OTHER_SUM" (1)) rfl)
theorem Txt.int_NO_SERVICE (T : Txt w K mg) : ∃ t, mg "NO_SERVICE" = some (.int (2) t) := by
  obtain ⟨h, X, G⟩ := T.g
  exact He.int_ok X G (T.fact 114 (f := .int "NO_SERVICE" (2)) rfl)
theorem Txt.int_NOT_USED (T : Txt w K mg) : ∃ t, mg "NOT_USED" = some (.int (3) t) := by
  obtain ⟨h, X, G⟩ := T.g
  exact He.int_ok X G (T.fact 115 (f := .int "NOT_USED" (3)) rfl)
theorem Txt.int_BOTH (T : Txt w K mg) : ∃ t, mg "BOTH" = some (.int (4) t) := by
  obtain ⟨h, X, G⟩ := T.g
  exact He.int_ok X G (T.fact 116 (f := .int "BOTH" (4)) rfl)
theorem Txt.int_NEITHER (T : Txt w K mg) : ∃ t, mg "NEITHER" = some (.int (5) t) := by
  obtain ⟨h, X, G⟩ := T.g
  exact He.int_ok X G (T.fact 117 (f := .int "NEITHER" (5)) rfl)
theorem Txt.int_NAME (T : Txt w K mg) : ∃ t, mg "NAME" = some (.int (0) t) := by
  obtain ⟨h, X, G⟩ := T.g
  exact He.int_ok X G (T.fact 118 (f := .int "NAME" (0)) rfl)
theorem Txt.int_NUMBER (T : Txt w K mg) : ∃ t, mg "NUMBER" = some (.int (1) t) := by
  obtain ⟨h, X, G⟩ := T.g
  exact He.int_ok X G (T.fact 119 (f := .int "NUMBER" (1)) rfl)
theorem Txt.int_SYMBOL (T : Txt w K mg) : ∃ t, mg "SYMBOL" = some (.int (2) t) := by
  obtain ⟨h, X, G⟩ := T.g
  exact He.int_ok X G (T.fact 120 (f := .int "SYMBOL" (2)) rfl)
theorem Txt.int_NO_TOKEN (T : Txt w K mg) : ∃ t, mg "NO_TOKEN" = some (.int (1) t) := by
  obtain ⟨h, X, G⟩ := T.g
  exact He.int_ok X G (T.fact 121 (f := .int "NO_TOKEN" (1)) rfl)
theorem Txt.int_TOO_LONG (T : Txt w K mg) : ∃ t, mg "TOO_LONG" = some (.int (2) t) := by
  obtain ⟨h, X, G⟩ := T.g
  exact He.int_ok X G (T.fact 122 (f := .int "TOO_LONG" (2)) rfl)
theorem Txt.str_LETTERS (T : Txt w K mg) : ∃ t, mg "LETTERS" = some (.str "abcdefghijklmnopqrstuvwxyz" t) := by
  obtain ⟨h, X, G⟩ := T.g
  exact He.str_ok X G (T.fact 123 (f := .str "LETTERS" "abcdefghijklmnopqrstuvwxyz") rfl)
theorem Txt.str_SIGNS (T : Txt w K mg) : ∃ t, mg "SIGNS" = some (.str "()*+,-./0123456789:;<=" t) := by
  obtain ⟨h, X, G⟩ := T.g
  exact He.str_ok X G (T.fact 124 (f := .str "SIGNS" "()*+,-./0123456789:;<=") rfl)
theorem Txt.str_SYMBOLS (T : Txt w K mg) : ∃ t, mg "SYMBOLS" = some (.str "()*+-/=" t) := by
  obtain ⟨h, X, G⟩ := T.g
  exact He.str_ok X G (T.fact 125 (f := .str "SYMBOLS" "()*+-/=") rfl)
theorem Txt.int_SPACE (T : Txt w K mg) : ∃ t, mg "SPACE" = some (.int (32) t) := by
  obtain ⟨h, X, G⟩ := T.g
  exact He.int_ok X G (T.fact 126 (f := .int "SPACE" (32)) rfl)
theorem Txt.int_TAB (T : Txt w K mg) : ∃ t, mg "TAB" = some (.int (9) t) := by
  obtain ⟨h, X, G⟩ := T.g
  exact He.int_ok X G (T.fact 127 (f := .int "TAB" (9)) rfl)
theorem Txt.int_COMMENT (T : Txt w K mg) : ∃ t, mg "COMMENT" = some (.int (35) t) := by
  obtain ⟨h, X, G⟩ := T.g
  exact He.int_ok X G (T.fact 128 (f := .int "COMMENT" (35)) rfl)
theorem Txt.int_POINT (T : Txt w K mg) : ∃ t, mg "POINT" = some (.int (46) t) := by
  obtain ⟨h, X, G⟩ := T.g
  exact He.int_ok X G (T.fact 129 (f := .int "POINT" (46)) rfl)
theorem Txt.int_LOW_LINE (T : Txt w K mg) : ∃ t, mg "LOW_LINE" = some (.int (95) t) := by
  obtain ⟨h, X, G⟩ := T.g
  exact He.int_ok X G (T.fact 130 (f := .int "LOW_LINE" (95)) rfl)
theorem Txt.int_MOST_LETTERS (T : Txt w K mg) : ∃ t, mg "MOST_LETTERS" = some (.int (12) t) := by
  obtain ⟨h, X, G⟩ := T.g
  exact He.int_ok X G (T.fact 131 (f := .int "MOST_LETTERS" (12)) rfl)
theorem Txt.int_MOST_BEFORE (T : Txt w K mg) : ∃ t, mg "MOST_BEFORE" = some (.int (9) t) := by
  obtain ⟨h, X, G⟩ := T.g
  exact He.int_ok X G (T.fact 132 (f := .int "MOST_BEFORE" (9)) rfl)
theorem Txt.int_MOST_BEHIND (T : Txt w K mg) : ∃ t, mg "MOST_BEHIND" = some (.int (6) t) := by
  obtain ⟨h, X, G⟩ := T.g
  exact He.int_ok X G (T.fact 133 (f := .int "MOST_BEHIND" (6)) rfl)
theorem Txt.int_UNEXPECTED (T : Txt w K mg) : ∃ t, mg "UNEXPECTED" = some (.int (3) t) := by
  obtain ⟨h, X, G⟩ := T.g
  exact He.int_ok X G (T.fact 134 (f := .int "UNEXPECTED" (3)) rfl)
theorem Txt.int_UNKNOWN (T : Txt w K mg) : ∃ t, mg "UNKNOWN" = some (.int (4) t) := by
  obtain ⟨h, X, G⟩ := T.g
  exact He.int_ok X G (T.fact 135 (f := .int "UNKNOWN" (4)) rfl)
theorem Txt.int_BY_NOUGHT (T : Txt w K mg) : ∃ t, mg "BY_NOUGHT" = some (.int (6) t) := by
  obtain ⟨h, X, G⟩ := T.g
  exact He.int_ok X G (T.fact 136 (f := .int "BY_NOUGHT" (6)) rfl)
theorem Txt.g_KEYWORDS (T : Txt w K mg) : mg "KEYWORDS" = some (.ref (He.ga K "KEYWORDS")) := by
  obtain ⟨h, X, G⟩ := T.g
  exact He.glo_ok X G (T.fact 137 (f := .glo "KEYWORDS") rfl)
theorem Txt.int_KNOWN (T : Txt w K mg) : ∃ t, mg "KNOWN" = some (.int (5) t) := by
  obtain ⟨h, X, G⟩ := T.g
  exact He.int_ok X G (T.fact 138 (f := .int "KNOWN" (5)) rfl)
theorem Txt.int_OUT_OF_RANGE_statements (T : Txt w K mg) : ∃ t, mg "OUT_OF_RANGE_statements" = some (.int (7) t) := by
  obtain ⟨h, X, G⟩ := T.g
  exact He.int_ok X G (T.fact 139 (f := .int "OUT_OF_RANGE_statements" (7)) rfl)
theorem Txt.int_TOO_MANY (T : Txt w K mg) : ∃ t, mg "TOO_MANY" = some (.int (8) t) := by
  obtain ⟨h, X, G⟩ := T.g
  exact He.int_ok X G (T.fact 140 (f := .int "TOO_MANY" (8)) rfl)
theorem Txt.int_MOST_CONSTANTS (T : Txt w K mg) : ∃ t, mg "MOST_CONSTANTS" = some (.int (16) t) := by
  obtain ⟨h, X, G⟩ := T.g
  exact He.int_ok X G (T.fact 141 (f := .int "MOST_CONSTANTS" (16)) rfl)
theorem Txt.int_MOST_CLASSES (T : Txt w K mg) : ∃ t, mg "MOST_CLASSES" = some (.int (4) t) := by
  obtain ⟨h, X, G⟩ := T.g
  exact He.int_ok X G (T.fact 142 (f := .int "MOST_CLASSES" (4)) rfl)
theorem Txt.int_MOST_STATIONS (T : Txt w K mg) : ∃ t, mg "MOST_STATIONS" = some (.int (8) t) := by
  obtain ⟨h, X, G⟩ := T.g
  exact He.int_ok X G (T.fact 143 (f := .int "MOST_STATIONS" (8)) rfl)
theorem Txt.int_MOST_SERVERS (T : Txt w K mg) : ∃ t, mg "MOST_SERVERS" = some (.int (100) t) := by
  obtain ⟨h, X, G⟩ := T.g
  exact He.int_ok X G (T.fact 144 (f := .int "MOST_SERVERS" (100)) rfl)
theorem Txt.int_MOST_CAPACITY (T : Txt w K mg) : ∃ t, mg "MOST_CAPACITY" = some (.int (1000) t) := by
  obtain ⟨h, X, G⟩ := T.g
  exact He.int_ok X G (T.fact 145 (f := .int "MOST_CAPACITY" (1000)) rfl)
theorem Txt.int_MOST_RATE (T : Txt w K mg) : ∃ t, mg "MOST_RATE" = some (.int (1000000) t) := by
  obtain ⟨h, X, G⟩ := T.g
  exact He.int_ok X G (T.fact 146 (f := .int "MOST_RATE" (1000000)) rfl)
theorem Txt.int_MOST_POPULATION (T : Txt w K mg) : ∃ t, mg "MOST_POPULATION" = some (.int (1000) t) := by
  obtain ⟨h, X, G⟩ := T.g
  exact He.int_ok X G (T.fact 147 (f := .int "MOST_POPULATION" (1000)) rfl)
theorem Txt.int_DELAY (T : Txt w K mg) : ∃ t, mg "DELAY" = some (.int (3) t) := by
  obtain ⟨h, X, G⟩ := T.g
  exact He.int_ok X G (T.fact 148 (f := .int "DELAY" (3)) rfl)
theorem Txt.g_DEFINITIONS (T : Txt w K mg) : mg "DEFINITIONS" = some (.ref (He.ga K "DEFINITIONS")) := by
  obtain ⟨h, X, G⟩ := T.g
  exact He.glo_ok X G (T.fact 149 (f := .glo "DEFINITIONS") rfl)
theorem Txt.g_SETTINGS (T : Txt w K mg) : mg "SETTINGS" = some (.ref (He.ga K "SETTINGS")) := by
  obtain ⟨h, X, G⟩ := T.g
  exact He.glo_ok X G (T.fact 150 (f := .glo "SETTINGS") rfl)
theorem Txt.int_NO_INSTANCE (T : Txt w K mg) : ∃ t, mg "NO_INSTANCE" = some (.int (-11) t) := by
  obtain ⟨h, X, G⟩ := T.g
  exact He.int_ok X G (T.fact 151 (f := .int "NO_INSTANCE" (-11)) rfl)
theorem Txt.int_NOT_THERE (T : Txt w K mg) : ∃ t, mg "NOT_THERE" = some (.int (-2) t) := by
  obtain ⟨h, X, G⟩ := T.g
  exact He.int_ok X G (T.fact 152 (f := .int "NOT_THERE" (-2)) rfl)
theorem Txt.int_TEXT_ERROR (T : Txt w K mg) : ∃ t, mg "TEXT_ERROR" = some (.int (-20) t) := by
  obtain ⟨h, X, G⟩ := T.g
  exact He.int_ok X G (T.fact 153 (f := .int "TEXT_ERROR" (-20)) rfl)
theorem Txt.int_OUT_OF_RANGE_calls (T : Txt w K mg) : ∃ t, mg "OUT_OF_RANGE_calls" = some (.int (-22) t) := by
  obtain ⟨h, X, G⟩ := T.g
  exact He.int_ok X G (T.fact 154 (f := .int "OUT_OF_RANGE_calls" (-22)) rfl)
theorem Txt.int_NO_NAME (T : Txt w K mg) : ∃ t, mg "NO_NAME" = some (.int (-33) t) := by
  obtain ⟨h, X, G⟩ := T.g
  exact He.int_ok X G (T.fact 155 (f := .int "NO_NAME" (-33)) rfl)
theorem Txt.int_FEED (T : Txt w K mg) : ∃ t, mg "FEED" = some (.int (10) t) := by
  obtain ⟨h, X, G⟩ := T.g
  exact He.int_ok X G (T.fact 156 (f := .int "FEED" (10)) rfl)
theorem Txt.int_MOST_BYTE (T : Txt w K mg) : ∃ t, mg "MOST_BYTE" = some (.int (255) t) := by
  obtain ⟨h, X, G⟩ := T.g
  exact He.int_ok X G (T.fact 157 (f := .int "MOST_BYTE" (255)) rfl)
theorem Txt.int_MOST_LINES (T : Txt w K mg) : ∃ t, mg "MOST_LINES" = some (.int (60) t) := by
  obtain ⟨h, X, G⟩ := T.g
  exact He.int_ok X G (T.fact 158 (f := .int "MOST_LINES" (60)) rfl)
theorem Txt.int_MOST_LENGTH (T : Txt w K mg) : ∃ t, mg "MOST_LENGTH" = some (.int (80) t) := by
  obtain ⟨h, X, G⟩ := T.g
  exact He.int_ok X G (T.fact 159 (f := .int "MOST_LENGTH" (80)) rfl)
theorem Txt.g_DEEDS (T : Txt w K mg) : mg "DEEDS" = some (.ref (He.ga K "DEEDS")) := by
  obtain ⟨h, X, G⟩ := T.g
  exact He.glo_ok X G (T.fact 160 (f := .glo "DEEDS") rfl)
theorem Txt.g_NUMBERS (T : Txt w K mg) : mg "NUMBERS" = some (.ref (He.ga K "NUMBERS")) := by
  obtain ⟨h, X, G⟩ := T.g
  exact He.glo_ok X G (T.fact 161 (f := .glo "NUMBERS") rfl)
theorem Txt.g_ROWS (T : Txt w K mg) : mg "ROWS" = some (.ref (He.ga K "ROWS")) := by
  obtain ⟨h, X, G⟩ := T.g
  exact He.glo_ok X G (T.fact 162 (f := .glo "ROWS") rfl)
theorem Txt.f_len (T : Txt w K mg) : mg "len" = none := by
  obtain ⟨h, X, G⟩ := T.g
  exact He.free_ok X G (T.fact 163 (f := .free "len") rfl)
theorem Txt.f_abs (T : Txt w K mg) : mg "abs" = none := by
  obtain ⟨h, X, G⟩ := T.g
  exact He.free_ok X G (T.fact 164 (f := .free "abs") rfl)
theorem Txt.f_ord (T : Txt w K mg) : mg "ord" = none := by
  obtain ⟨h, X, G⟩ := T.g
  exact He.free_ok X G (T.fact 165 (f := .free "ord") rfl)
theorem Txt.f_int (T : Txt w K mg) : mg "int" = none := by
  obtain ⟨h, X, G⟩ := T.g
  exact He.free_ok X G (T.fact 166 (f := .free "int") rfl)
theorem Txt.f_str (T : Txt w K mg) : mg "str" = none := by
  obtain ⟨h, X, G⟩ := T.g
  exact He.free_ok X G (T.fact 167 (f := .free "str") rfl)
theorem Txt.f_list (T : Txt w K mg) : mg "list" = none := by
  obtain ⟨h, X, G⟩ := T.g
  exact He.free_ok X G (T.fact 168 (f := .free "list") rfl)
theorem Txt.f_dict (T : Txt w K mg) : mg "dict" = none := by
  obtain ⟨h, X, G⟩ := T.g
  exact He.free_ok X G (T.fact 169 (f := .free "dict") rfl)
theorem Txt.f_range (T : Txt w K mg) : mg "range" = none := by
  obtain ⟨h, X, G⟩ := T.g
  exact He.free_ok X G (T.fact 170 (f := .free "range") rfl)
theorem Txt.f_sorted (T : Txt w K mg) : mg "sorted" = none := by
  obtain ⟨h, X, G⟩ := T.g
  exact He.free_ok X G (T.fact 171 (f := .free "sorted") rfl)
theorem Txt.f_enumerate (T : Txt w K mg) : mg "enumerate" = none := by
  obtain ⟨h, X, G⟩ := T.g
  exact He.free_ok X G (T.fact 172 (f := .free "enumerate") rfl)
theorem Txt.f_ValueError (T : Txt w K mg) : mg "ValueError" = none := by
  obtain ⟨h, X, G⟩ := T.g
  exact He.free_ok X G (T.fact 173 (f := .free "ValueError") rfl)
theorem Txt.c_Station (T : Txt w K mg) : Cls K (He.ga K "Station") := He.cls_ok (T.fact 174 (f := .cls "Station") rfl)
theorem Txt.k_Station (T : Txt w K mg) : Mk K (He.ga K "Station") (He.ma K (He.ga K "Station") "__init__") := He.mkr_ok (T.fact 175 (f := .mkr "Station") rfl)
theorem Txt.n_Station_name (T : Txt w K mg) : NoAttr K (He.ga K "Station") "name" := He.noat_ok (T.fact 176 (f := .noat "Station" "name") rfl)
theorem Txt.n_Station_discipline (T : Txt w K mg) : NoAttr K (He.ga K "Station") "discipline" := He.noat_ok (T.fact 177 (f := .noat "Station" "discipline") rfl)
theorem Txt.n_Station_servers (T : Txt w K mg) : NoAttr K (He.ga K "Station") "servers" := He.noat_ok (T.fact 178 (f := .noat "Station" "servers") rfl)
theorem Txt.n_Station_capacity (T : Txt w K mg) : NoAttr K (He.ga K "Station") "capacity" := He.noat_ok (T.fact 179 (f := .noat "Station" "capacity") rfl)
theorem Txt.c_Model (T : Txt w K mg) : Cls K (He.ga K "Model") := He.cls_ok (T.fact 180 (f := .cls "Model") rfl)
theorem Txt.k_Model (T : Txt w K mg) : Mk K (He.ga K "Model") (He.ma K (He.ga K "Model") "__init__") := He.mkr_ok (T.fact 181 (f := .mkr "Model") rfl)
theorem Txt.n_Model_constants (T : Txt w K mg) : NoAttr K (He.ga K "Model") "constants" := He.noat_ok (T.fact 182 (f := .noat "Model" "constants") rfl)
theorem Txt.n_Model_classes (T : Txt w K mg) : NoAttr K (He.ga K "Model") "classes" := He.noat_ok (T.fact 183 (f := .noat "Model" "classes") rfl)
theorem Txt.n_Model_stations (T : Txt w K mg) : NoAttr K (He.ga K "Model") "stations" := He.noat_ok (T.fact 184 (f := .noat "Model" "stations") rfl)
theorem Txt.n_Model_services (T : Txt w K mg) : NoAttr K (He.ga K "Model") "services" := He.noat_ok (T.fact 185 (f := .noat "Model" "services") rfl)
theorem Txt.n_Model_arrivals (T : Txt w K mg) : NoAttr K (He.ga K "Model") "arrivals" := He.noat_ok (T.fact 186 (f := .noat "Model" "arrivals") rfl)
theorem Txt.n_Model_routes (T : Txt w K mg) : NoAttr K (He.ga K "Model") "routes" := He.noat_ok (T.fact 187 (f := .noat "Model" "routes") rfl)
theorem Txt.n_Model_leaves (T : Txt w K mg) : NoAttr K (He.ga K "Model") "leaves" := He.noat_ok (T.fact 188 (f := .noat "Model" "leaves") rfl)
theorem Txt.n_Model_populations (T : Txt w K mg) : NoAttr K (He.ga K "Model") "populations" := He.noat_ok (T.fact 189 (f := .noat "Model" "populations") rfl)
theorem Txt.c_Reader (T : Txt w K mg) : Cls K (He.ga K "Reader") := He.cls_ok (T.fact 190 (f := .cls "Reader") rfl)
theorem Txt.k_Reader (T : Txt w K mg) : Mk K (He.ga K "Reader") (He.ma K (He.ga K "Reader") "__init__") := He.mkr_ok (T.fact 191 (f := .mkr "Reader") rfl)
theorem Txt.n_Reader_tokens (T : Txt w K mg) : NoAttr K (He.ga K "Reader") "tokens" := He.noat_ok (T.fact 192 (f := .noat "Reader" "tokens") rfl)
theorem Txt.n_Reader_at (T : Txt w K mg) : NoAttr K (He.ga K "Reader") "at" := He.noat_ok (T.fact 193 (f := .noat "Reader" "at") rfl)
theorem Txt.n_Reader_length (T : Txt w K mg) : NoAttr K (He.ga K "Reader") "length" := He.noat_ok (T.fact 194 (f := .noat "Reader" "length") rfl)
theorem Txt.c_Level (T : Txt w K mg) : Cls K (He.ga K "Level") := He.cls_ok (T.fact 195 (f := .cls "Level") rfl)
theorem Txt.k_Level (T : Txt w K mg) : Mk K (He.ga K "Level") (He.ma K (He.ga K "Level") "__init__") := He.mkr_ok (T.fact 196 (f := .mkr "Level") rfl)
theorem Txt.n_Level_total (T : Txt w K mg) : NoAttr K (He.ga K "Level") "total" := He.noat_ok (T.fact 197 (f := .noat "Level" "total") rfl)
theorem Txt.n_Level_sign (T : Txt w K mg) : NoAttr K (He.ga K "Level") "sign" := He.noat_ok (T.fact 198 (f := .noat "Level" "sign") rfl)
theorem Txt.n_Level_term (T : Txt w K mg) : NoAttr K (He.ga K "Level") "term" := He.noat_ok (T.fact 199 (f := .noat "Level" "term") rfl)
theorem Txt.n_Level_operator (T : Txt w K mg) : NoAttr K (He.ga K "Level") "operator" := He.noat_ok (T.fact 200 (f := .noat "Level" "operator") rfl)
theorem Txt.n_Level_column (T : Txt w K mg) : NoAttr K (He.ga K "Level") "column" := He.noat_ok (T.fact 201 (f := .noat "Level" "column") rfl)
theorem Txt.n_Level_is_turned (T : Txt w K mg) : NoAttr K (He.ga K "Level") "is_turned" := He.noat_ok (T.fact 202 (f := .noat "Level" "is_turned") rfl)
theorem Txt.c_Desk (T : Txt w K mg) : Cls K (He.ga K "Desk") := He.cls_ok (T.fact 203 (f := .cls "Desk") rfl)
theorem Txt.k_Desk (T : Txt w K mg) : Mk K (He.ga K "Desk") (He.ma K (He.ga K "Desk") "__init__") := He.mkr_ok (T.fact 204 (f := .mkr "Desk") rfl)
theorem Txt.n_Desk_model (T : Txt w K mg) : NoAttr K (He.ga K "Desk") "model" := He.noat_ok (T.fact 205 (f := .noat "Desk" "model") rfl)
theorem Txt.m_LineError (T : Txt w K mg) : Meth K (He.ga K "LineError") "__init__" (He.ma K (He.ga K "LineError") "__init__") := He.meth_ok (T.fact 206 (f := .meth "LineError" "__init__") rfl)
theorem Txt.kp_LineError (T : Txt w K mg) : PySem.W.keepIn K (.ref (He.ga K "LineError")) = true := He.keep_ok (T.fact 207 (f := .keep "LineError") rfl)
theorem Txt.exm_LineError_LineError (T : Txt w K mg) : PySem.W.exmOne K (.ref (He.ga K "LineError")) (.ref (He.ga K "LineError")) = some true := He.exm_ok (T.fact 208 (f := .exm "LineError" "LineError" true) rfl)
theorem Txt.exm_LineError_TextError (T : Txt w K mg) : PySem.W.exmOne K (.ref (He.ga K "LineError")) (.ref (He.ga K "TextError")) = some false := He.exm_ok (T.fact 209 (f := .exm "LineError" "TextError" false) rfl)
theorem Txt.exm_LineError_Refused (T : Txt w K mg) : PySem.W.exmOne K (.ref (He.ga K "LineError")) (.ref (He.ga K "Refused")) = some false := He.exm_ok (T.fact 210 (f := .exm "LineError" "Refused" false) rfl)
theorem Txt.n_LineError_column (T : Txt w K mg) : NoAttr K (He.ga K "LineError") "column" := He.noat_ok (T.fact 211 (f := .noat "LineError" "column") rfl)
theorem Txt.n_LineError_kind (T : Txt w K mg) : NoAttr K (He.ga K "LineError") "kind" := He.noat_ok (T.fact 212 (f := .noat "LineError" "kind") rfl)
theorem Txt.m_TextError (T : Txt w K mg) : Meth K (He.ga K "TextError") "__init__" (He.ma K (He.ga K "TextError") "__init__") := He.meth_ok (T.fact 213 (f := .meth "TextError" "__init__") rfl)
theorem Txt.kp_TextError (T : Txt w K mg) : PySem.W.keepIn K (.ref (He.ga K "TextError")) = true := He.keep_ok (T.fact 214 (f := .keep "TextError") rfl)
theorem Txt.exm_TextError_LineError (T : Txt w K mg) : PySem.W.exmOne K (.ref (He.ga K "TextError")) (.ref (He.ga K "LineError")) = some false := He.exm_ok (T.fact 215 (f := .exm "TextError" "LineError" false) rfl)
theorem Txt.exm_TextError_TextError (T : Txt w K mg) : PySem.W.exmOne K (.ref (He.ga K "TextError")) (.ref (He.ga K "TextError")) = some true := He.exm_ok (T.fact 216 (f := .exm "TextError" "TextError" true) rfl)
theorem Txt.exm_TextError_Refused (T : Txt w K mg) : PySem.W.exmOne K (.ref (He.ga K "TextError")) (.ref (He.ga K "Refused")) = some false := He.exm_ok (T.fact 217 (f := .exm "TextError" "Refused" false) rfl)
theorem Txt.n_TextError_line (T : Txt w K mg) : NoAttr K (He.ga K "TextError") "line" := He.noat_ok (T.fact 218 (f := .noat "TextError" "line") rfl)
theorem Txt.n_TextError_column (T : Txt w K mg) : NoAttr K (He.ga K "TextError") "column" := He.noat_ok (T.fact 219 (f := .noat "TextError" "column") rfl)
theorem Txt.n_TextError_kind (T : Txt w K mg) : NoAttr K (He.ga K "TextError") "kind" := He.noat_ok (T.fact 220 (f := .noat "TextError" "kind") rfl)
theorem Txt.m_Refused (T : Txt w K mg) : Meth K (He.ga K "Refused") "__init__" (He.ma K (He.ga K "Refused") "__init__") := He.meth_ok (T.fact 221 (f := .meth "Refused" "__init__") rfl)
theorem Txt.kp_Refused (T : Txt w K mg) : PySem.W.keepIn K (.ref (He.ga K "Refused")) = true := He.keep_ok (T.fact 222 (f := .keep "Refused") rfl)
theorem Txt.exm_Refused_LineError (T : Txt w K mg) : PySem.W.exmOne K (.ref (He.ga K "Refused")) (.ref (He.ga K "LineError")) = some false := He.exm_ok (T.fact 223 (f := .exm "Refused" "LineError" false) rfl)
theorem Txt.exm_Refused_TextError (T : Txt w K mg) : PySem.W.exmOne K (.ref (He.ga K "Refused")) (.ref (He.ga K "TextError")) = some false := He.exm_ok (T.fact 224 (f := .exm "Refused" "TextError" false) rfl)
theorem Txt.exm_Refused_Refused (T : Txt w K mg) : PySem.W.exmOne K (.ref (He.ga K "Refused")) (.ref (He.ga K "Refused")) = some true := He.exm_ok (T.fact 225 (f := .exm "Refused" "Refused" true) rfl)
theorem Txt.n_Refused_row (T : Txt w K mg) : NoAttr K (He.ga K "Refused") "row" := He.noat_ok (T.fact 226 (f := .noat "Refused" "row") rfl)
theorem Txt.t_NOUGHT (T : Txt w K mg) (H : Hp) : SqT K H (He.ga K "NOUGHT") (t_NOUGHT.map (He.Dv.v K)) := He.tupB_ok (T.c.exi 0 rfl) H
theorem Txt.t_ONE (T : Txt w K mg) (H : Hp) : SqT K H (He.ga K "ONE") (t_ONE.map (He.Dv.v K)) := He.tupB_ok (T.c.exi 1 rfl) H
theorem Txt.t_DISCIPLINES (T : Txt w K mg) (H : Hp) : SqT K H (He.ga K "DISCIPLINES") (t_DISCIPLINES.map (He.Dv.v K)) := He.tupB_ok (T.c.exi 2 rfl) H
theorem Txt.t_KEYWORDS (T : Txt w K mg) (H : Hp) : SqT K H (He.ga K "KEYWORDS") (t_KEYWORDS.map (He.Dv.v K)) := He.tupB_ok (T.c.exi 3 rfl) H
theorem Txt.t_NUMBERS (T : Txt w K mg) (H : Hp) : SqT K H (He.ga K "NUMBERS") (t_NUMBERS.map (He.Dv.v K)) := He.tupB_ok (T.c.exi 4 rfl) H
theorem Txt.t_ROWS (T : Txt w K mg) (H : Hp) : SqT K H (He.ga K "ROWS") (t_ROWS.map (He.Dv.v K)) := He.tupB_ok (T.c.exi 5 rfl) H
theorem Txt.t_DEEDS (T : Txt w K mg) (H : Hp) : SqT K H (He.ga K "DEEDS") (t_DEEDS.map (He.Dv.v K)) := He.tupB_ok (T.c.exi 6 rfl) H
theorem Txt.v_DEFINITIONS (T : Txt w K mg) : He.valsB K (He.ga K "DEFINITIONS") t_DEFINITIONS = true := T.c.exi 7 rfl
theorem Txt.v_SETTINGS (T : Txt w K mg) : He.valsB K (He.ga K "SETTINGS") t_SETTINGS = true := T.c.exi 8 rfl
theorem Txt.o_LineError (T : Txt w K mg) : OexC K (He.ga K "LineError") ∧ XfC K (He.ga K "LineError") := oexB_ok (T.c.exi 9 rfl)
theorem Txt.o_TextError (T : Txt w K mg) : OexC K (He.ga K "TextError") ∧ XfC K (He.ga K "TextError") := oexB_ok (T.c.exi 10 rfl)
theorem Txt.o_Refused (T : Txt w K mg) : OexC K (He.ga K "Refused") ∧ XfC K (He.ga K "Refused") := oexB_ok (T.c.exi 11 rfl)
theorem Txt.ty_LineError (T : Txt w K mg) : PySem.W.typeIn K (.ref (He.ma K (He.ga K "LineError") "__init__")) = some (.type "function") := of_decide_eq_true (T.c.exi 12 rfl)
theorem Txt.ty_TextError (T : Txt w K mg) : PySem.W.typeIn K (.ref (He.ma K (He.ga K "TextError") "__init__")) = some (.type "function") := of_decide_eq_true (T.c.exi 13 rfl)
theorem Txt.ty_Refused (T : Txt w K mg) : PySem.W.typeIn K (.ref (He.ma K (He.ga K "Refused") "__init__")) = some (.type "function") := of_decide_eq_true (T.c.exi 14 rfl)
theorem Txt.nod_DISCIPLINES (T : Txt w K mg) : ∃ o, K.lookup (He.ga K "DISCIPLINES") = some o ∧ o.dict = none := nodB_ok (T.c.exi 15 rfl)
theorem Txt.d_DEFINITIONS (T : Txt w K mg) : ∃ es n, KDict K w (He.ga K "DEFINITIONS") es n := T.c.t.tab 0 (t := ((fun K => He.ga K "DEFINITIONS"), k_DEFINITIONS)) rfl
theorem Txt.d_SETTINGS (T : Txt w K mg) : ∃ es n, KDict K w (He.ga K "SETTINGS") es n := T.c.t.tab 1 (t := ((fun K => He.ga K "SETTINGS"), k_SETTINGS)) rfl
end
/-! ### a def keeps a promise -/
structure OKF (w : World) (K : PySem.W.Frag) (mg : Str → Option Value) (base : Heap) (CX : CXT) (k : Nat) (d : He.DefD) (ps : List Str) (sp : Sp) : Prop where
  ex : ∃ fd, FnOk prog w K mg base CX k (He.fAd K d.at_) fd ps sp ∧ Binds K fd ps []
  kp : PySem.W.keepIn K (.ref (He.fAd K d.at_)) = true
theorem okf_mk {w : World} {K : PySem.W.Frag} {mg : Str → Option Value} {base : Heap} {CX : CXT} {d : He.DefD} {N ps : List Str} {k : Nat} {sp : Sp} (T : Txt w K mg) (i : Nat) (hi : fns[i]? = some d) (S : FnScope N ps d.scope) (hdf : d.dvs K = []) (hkw : d.kws K = [])
    (hb : ∀ (kV doc pm : Value) (an : Option Addr) (cdv ct : Value) (us : List Value), us.length = ps.length → bindArgs (PySem.W.fnOf d.name d.qual d.params d.body d.scope .none kV doc pm an cdv ct) ⟨us, []⟩ = pure (ps.zip us))
    (len : ∀ vs H Q E, sp vs H Q E → vs.length = ps.length)
    (hbody : ∀ (f : Addr) (cdv : Value) (A : Around) (outer : List Env) (s : Shared) (H : Hp) (vs : List V) (Q : VK) (E : XK), Room k (A.deeper (envOfC d.qual d.scope s.heap.objs.size f cdv)) → sp vs H Q E →
      ∃ t, PSs (cxOf CX prog w K mg base N d.qual d.scope f cdv A outer s H E) d.body t ∧ t { nx := fun _ H' => Q .non H', rt := Q } (start N vs) H) : OKF w K mg base CX (k + 1) d ps sp := by
  obtain ⟨fd, F⟩ := T.c.t.d.def_ i hi
  rw [hdf, hkw] at F
  exact ⟨⟨fd, F.ok S len fun cdv A outer s H vs Q E hr h => hbody _ cdv A outer s H vs Q E hr h, F.bindsN hb⟩, F.kp⟩
/-- f(e, ..), a def of the module -/
def tCl (sp : Sp) (E : XK) (t : TA) : TE := fun σ H Q => t σ H fun vs H1 => sp vs H1 Q E
theorem pe_ok {X : Cx} {CX : CXT} {k : Nat} {d : He.DefD} {ps : List Str} {sp : Sp} {E : XK} {x : Str} {p pos : Pos} {e : Expr} {es : List Expr} {t : TA} (F : OKF X.w X.K X.mg X.base CX k d ps sp) (hr : Room k X.A) (hg : Gl X x) (hm : X.mg x = some (.ref (He.fAd X.K d.at_))) (hx : Passes CX X E)
    (ha : PA X (e :: es) t) (hp : X.prog = prog := by rfl) (hdb : (x == ("__debug__" : Str)) = false := by decide) (he : starEach (e :: es) X.env = (false, eval e X.env) :: starEach es X.env := by rfl) (hpl : (backTo pos (starEach es X.env)).any (·.1) = false := by rfl) :
    PE X (.Call (.Name x p) (e :: es) [] pos) (tCl sp E t) := by
  obtain ⟨fd, G, b⟩ := F.ex
  rw [← hp] at G
  have q := pe_call (X := X) (p := p) (pos := pos) (dvs := []) (ds := []) G hr hg hm F.kp b .nil hx ha hdb he hpl
  refine ⟨fun pins s σ H Q I h => q.run pins s σ H Q I ?_⟩
  unfold tCall
  simp only [List.append_nil]
  exact h
/-- C(e, ..), C() -/
def tMk (C : Addr) (sp : Sp) (E : XK) (t : TA) : TE := fun σ H Q => t σ H fun vs H1 => ∀ x dx, H1 x = none → H1 dx = none → dx ≠ x →
  sp (.ref x :: vs) (upd (upd H1 dx (.own x)) x (.ins C dx [])) (fun v H2 => v = .non ∧ Q (.ref x) H2) E
theorem pe_mk {X : Cx} {CX : CXT} {k : Nat} {d : He.DefD} {C : Addr} {ps : List Str} {sp : Sp} {E : XK} {x : Str} {p pos : Pos} {e : Expr} {es : List Expr} {t : TA} (F : OKF X.w X.K X.mg X.base CX k d ps sp) (M : Mk X.K C (He.fAd X.K d.at_)) (hr : Room (k + 1) X.A) (hg : Gl X x) (hm : X.mg x = some (.ref C)) (hx : Passes CX X E)
    (ha : PA X (e :: es) t) (hp : X.prog = prog := by rfl) (hdb : (x == ("__debug__" : Str)) = false := by decide) (he : starEach (e :: es) X.env = (false, eval e X.env) :: starEach es X.env := by rfl) (hpl : (backTo pos (starEach es X.env)).any (·.1) = false := by rfl) :
    PE X (.Call (.Name x p) (e :: es) [] pos) (tMk C sp E t) := by
  obtain ⟨fd, G, b⟩ := F.ex
  rw [← hp] at G
  have q := pe_make (X := X) (p := p) (pos := pos) (dvs := []) (ds := []) M G hr hg hm b .nil hx ha hdb he hpl
  refine ⟨fun pins s σ H Q I h => q.run pins s σ H Q I ?_⟩
  unfold tMake
  simp only [List.append_nil]
  exact h
theorem pe_mk0 {X : Cx} {CX : CXT} {k : Nat} {d : He.DefD} {C : Addr} {ps : List Str} {sp : Sp} {E : XK} {x : Str} {p pos : Pos} (F : OKF X.w X.K X.mg X.base CX k d ps sp) (M : Mk X.K C (He.fAd X.K d.at_)) (hr : Room (k + 1) X.A) (hg : Gl X x) (hm : X.mg x = some (.ref C)) (hx : Passes CX X E)
    (hp : X.prog = prog := by rfl) (hdb : (x == ("__debug__" : Str)) = false := by decide) : PE X (.Call (.Name x p) [] [] pos) (tMk C sp E tNil) := by
  obtain ⟨fd, G, b⟩ := F.ex
  rw [← hp] at G
  have q := pe_make0 (X := X) (p := p) (pos := pos) (dvs := []) (ds := []) M G hr hg hm b .nil hx hdb
  refine ⟨fun pins s σ H Q I h => q.run pins s σ H Q I ?_⟩
  unfold tMake
  simp only [List.append_nil]
  exact h
theorem pe_gint {X : Cx} {x : Str} {i : Int} {pos : Pos} (hg : Gl X x) (h : ∃ t, X.mg x = some (.int i t)) (hd : (x == ("__debug__" : Str)) = false := by decide) : PE X (.Name x pos) (tC (.int i)) := by
  obtain ⟨t, e⟩ := h
  exact pe_glob hg e ⟨t, rfl⟩ hd
theorem pe_gstr {X : Cx} {x z : Str} {pos : Pos} (hg : Gl X x) (h : ∃ t, X.mg x = some (.str z t)) (hd : (x == ("__debug__" : Str)) = false := by decide) : PE X (.Name x pos) (tC (.str z)) := by
  obtain ⟨t, e⟩ := h
  exact pe_glob hg e ⟨t, rfl⟩ hd
end Q
set_option Elab.async false
set_option linter.all false
set_option maxRecDepth 100000
set_option maxHeartbeats 0
namespace Q
open PySem PySem.Spec PyProof.Rows L2
/-! ### looks at the row -/
abbrev RowQ : PySem.W.OpenSpec := PySem.Challenge.rw_queuelanguage_s01_answers
abbrev Rw : PySem.W.OpenSpec := PySem.Challenge.rw_queuelanguage_s01_answers
abbrev qv : Program := PySem.W.view prog [171]
theorem well_row : RowQ.wellSaid = true := by decide +kernel
theorem chain_row : PySem.W.chainsOk qv = true := by decide +kernel
theorem opens_row : PySem.W.opensWell Rw.prog = true := by decide +kernel
theorem bare_row : Rw.prog.bare := ⟨rfl, rfl, rfl, rfl, rfl, by decide +kernel⟩
theorem some_row : ∃ args, Rw.pre args = true ∧ PySem.W.WData.layableAll args = true := ⟨[.list [.int 0]], by decide +kernel, by decide +kernel⟩
end Q
set_option Elab.async false
set_option linter.all false
set_option maxRecDepth 100000
set_option maxHeartbeats 0
namespace Q
open PySem PySem.Spec PyProof.Rows L2
def nm0 : List Str := ["NOUGHT", "ONE", "FAR", "divisor_of", "reduced", "plus", "less", "times", "over", "opposite", "is_near", "is_within", "is_whole_within", "DISCIPLINES", "OTHER_SUM", "NO_SERVICE", "NOT_USED", "BOTH", "NEITHER", "Station", "Model", "copy_of", "station_names", "value_word", "place_words", "value_rows", "station_row", "canonical_lines", "sum_of", "is_used"]
def nm1 : List Str := ["place_problems", "class_problems", "problems_of", "NAME", "NUMBER", "SYMBOL", "NO_TOKEN", "TOO_LONG", "LETTERS", "SIGNS", "SYMBOLS", "SPACE", "TAB", "COMMENT", "POINT", "LOW_LINE", "MOST_LETTERS", "MOST_BEFORE", "MOST_BEHIND", "LineError", "need", "is_letter", "is_digit", "name_end", "digits_end", "sign_of", "number_of", "number_of_tokens", "power_of_ten", "number_at"]
def nm2 : List Str := ["name_at", "symbol_at", "token_at", "tokens_of", "UNEXPECTED", "UNKNOWN", "BY_NOUGHT", "KEYWORDS", "Reader", "Level", "column_next", "is_next", "take_if", "symbol_next", "unexpected", "take_end", "whole_of", "put_factor", "take_number", "take_factor", "take_closing", "take_operator", "take_expression", "KNOWN", "OUT_OF_RANGE_statements", "TOO_MANY", "MOST_CONSTANTS", "MOST_CLASSES", "MOST_STATIONS", "MOST_SERVERS"]
def nm3 : List Str := ["MOST_CAPACITY", "MOST_RATE", "MOST_POPULATION", "DELAY", "TextError", "take_word", "take_new_name", "take_known", "take_place", "take_value", "take_last_value", "define_constant", "define_class", "take_many", "define_station", "set_value", "set_service", "set_arrival", "set_route", "set_leave", "set_population", "DEFINITIONS", "SETTINGS", "do_line", "done", "value_in", "NO_INSTANCE", "NOT_THERE", "TEXT_ERROR", "OUT_OF_RANGE_calls"]
def nm4 : List Str := ["NO_NAME", "FEED", "MOST_BYTE", "MOST_LINES", "MOST_LENGTH", "Refused", "Desk", "ask", "lines_of", "asked_text", "ask_line", "result_of", "coded", "create", "load", "amend", "show_tokens", "evaluate", "print_model", "print_line", "counts", "show_station", "class_name", "number_of_calls", "find_station", "find_class", "constant", "asked_place", "service", "arrival"]
def nm5 : List Str := ["route", "leaving", "out_sum", "population", "problems", "is_equal", "lacking", "difference", "check", "answered", "DEEDS", "NUMBERS", "ROWS"]
def nmAll : List Str := nm0 ++ nm1 ++ nm2 ++ nm3 ++ nm4 ++ nm5
def obsA (K : PySem.W.Frag) : He.AlT × Bool := (He.obsT fas fns tbs K, (exs K).all id)
def valA (w : World) : He.AlT × Bool := (He.valT fns tbs w, true)
def addrs : List Addr := mainGlobals :: List.range 872
def hookA : PySem.W.Hook where
  α := He.AlT × Bool
  obs := fun s => obsA (He.frG s.heap.get? addrs)
  val := fun w => valA w
  says := fun w h => ∃ K : PySem.W.Frag, K.In h ∧ Says w K
  of := fun _ _ e => ⟨_, He.frG_in, ⟨congrArg (fun z : He.AlT × Bool => z.1) e, congrArg (fun z : He.AlT × Bool => z.2) e⟩⟩
  keeps := fun _ _ _ ⟨K, hK, c⟩ k => ⟨K, PySem.W.Frag.In.keeps hK k, c⟩
def obT (s : PySem.W.SharedT) : He.AlT × Bool := obsA (He.frG (HeadRun.getT s) addrs)
theorem obT_eq (s : PySem.W.SharedT) : obT s = hookA.obs s.abs := by
  have e : HeadRun.getT s = s.abs.heap.get? := funext (HeadRun.getT_eq s)
  show obsA (He.frG (HeadRun.getT s) addrs) = obsA (He.frG s.abs.heap.get? addrs)
  rw [e]
abbrev RunAt (w : World) (os : OsState) : Prop := (HeadRun.endF (HeadRun.stepQ (HeadRun.denQ HeadRun.tabQ) Rw.prog w) 12000 Rw.prog w os).map (fun s => (HeadRun.looksF Rw.prog (PySem.W.boot_heap w.params) s.abs, HeadRun.seenQ qv nmAll (importedModules Rw.prog.main.body) (fun s => PySem.W.xlAt qv [] s && PySem.W.recOk [] s) s.abs, obT s)) = some (true, PySem.W.openGood qv nmAll, hookA.val w)
/-! ### the run of the top, looked at in three parts -/
def fasA : List He.Fa := fl0 ++ fl1 ++ fl2 ++ fl3
def fasB : List He.Fa := fl4 ++ fl5 ++ fl6 ++ fl7
def fnsA : List He.DefD := dl0 ++ dl1 ++ dl2
def fnsB : List He.DefD := dl3 ++ dl4
theorem fas_two (p : He.Fa → Bool) : fas.all p = (fasA.all p && fasB.all p) := by
  unfold fas fasA fasB
  simp only [List.all_append, Bool.and_assoc]
theorem fns_two (p : He.DefD → Bool) : fns.all p = (fnsA.all p && fnsB.all p) := by
  unfold fns fnsA fnsB
  simp only [List.all_append, Bool.and_assoc]
theorem fns_maps {α : Type} (f : He.DefD → α) : fns.map f = fnsA.map f ++ fnsB.map f := by
  unfold fns fnsA fnsB
  simp only [List.map_append, List.append_assoc]
def frS (s : PySem.W.SharedT) : PySem.W.Frag := He.frG (HeadRun.getT s) addrs
noncomputable abbrev runS (w : World) (os : OsState) : Option PySem.W.SharedT := HeadRun.endF (HeadRun.stepQ (HeadRun.denQ HeadRun.tabQ) Rw.prog w) 12000 Rw.prog w os
noncomputable def part1 (w : World) (s : PySem.W.SharedT) := (HeadRun.looksF Rw.prog (PySem.W.boot_heap w.params) s.abs, HeadRun.seenQ qv nmAll (importedModules Rw.prog.main.body) (fun s => PySem.W.xlAt qv [] s && PySem.W.recOk [] s) s.abs)
def obs2 (K : PySem.W.Frag) : Bool × List He.FnW := ((fasA.all fun f => f.ok K) && fnsA.all fun d => d.ok K, fnsA.map fun d => He.fnW K d.at_)
def obs3 (K : PySem.W.Frag) : (Bool × List He.FnW) × List (Option (List (Option (Str × Int)))) × Bool := (((fasB.all fun f => f.ok K) && fnsB.all fun d => d.ok K, fnsB.map fun d => He.fnW K d.at_), tbs.map fun t => He.dicW K (t.1 K), (exs K).all id)
def val3 (w : World) : (Bool × List He.FnW) × List (Option (List (Option (Str × Int)))) × Bool := ((true, fnsB.map He.DefD.val), tbs.map fun t => some (He.keysIn w.params t.2), true)
theorem run1_f (w : World) (os : OsState) : (runS (w.withFollow "special-get-raises" false) os).map (part1 (w.withFollow "special-get-raises" false)) = some (true, PySem.W.openGood qv nmAll) := by
  kernel_rfl
theorem run2_f (w : World) (os : OsState) : (runS (w.withFollow "special-get-raises" false) os).map (fun s => obs2 (frS s)) = some (true, fnsA.map He.DefD.val) := by
  kernel_rfl
theorem run3_f (w : World) (os : OsState) : (runS (w.withFollow "special-get-raises" false) os).map (fun s => obs3 (frS s)) = some (val3 (w.withFollow "special-get-raises" false)) := by
  kernel_rfl
theorem run1_t (w : World) (os : OsState) : (runS (w.withFollow "special-get-raises" true) os).map (part1 (w.withFollow "special-get-raises" true)) = some (true, PySem.W.openGood qv nmAll) := by
  kernel_rfl
theorem run2_t (w : World) (os : OsState) : (runS (w.withFollow "special-get-raises" true) os).map (fun s => obs2 (frS s)) = some (true, fnsA.map He.DefD.val) := by
  kernel_rfl
theorem run3_t (w : World) (os : OsState) : (runS (w.withFollow "special-get-raises" true) os).map (fun s => obs3 (frS s)) = some (val3 (w.withFollow "special-get-raises" true)) := by
  kernel_rfl
theorem run_join (w : World) (os : OsState) (h1 : (runS w os).map (part1 w) = some (true, PySem.W.openGood qv nmAll)) (h2 : (runS w os).map (fun s => obs2 (frS s)) = some (true, fnsA.map He.DefD.val)) (h3 : (runS w os).map (fun s => obs3 (frS s)) = some (val3 w)) : RunAt w os := by
  show (runS w os).map _ = _
  cases q : runS w os with
  | none => rw [q] at h1; cases h1
  | some s =>
    rw [q] at h1 h2 h3
    have g1 : part1 w s = (true, PySem.W.openGood qv nmAll) := Option.some.inj h1
    have g2 : obs2 (frS s) = (true, fnsA.map He.DefD.val) := Option.some.inj h2
    have g3 : obs3 (frS s) = val3 w := Option.some.inj h3
    obtain ⟨a1, a2⟩ := Prod.mk.inj g1
    obtain ⟨b1, b2⟩ := Prod.mk.inj g2
    obtain ⟨c1, c2⟩ := Prod.mk.inj g3
    obtain ⟨c3, c4⟩ := Prod.mk.inj c1
    obtain ⟨c5, c6⟩ := Prod.mk.inj c2
    obtain ⟨b3, b4⟩ := Bool.and_eq_true_iff.mp b1
    obtain ⟨c7, c8⟩ := Bool.and_eq_true_iff.mp c3
    have e : obT s = hookA.val w := by
      show (He.obsT fas fns tbs (frS s), (exs (frS s)).all id) = (He.valT fns tbs w, true)
      have e1 : ((fas.all fun f => f.ok (frS s)) && fns.all fun d => d.ok (frS s)) = true := by
        rw [fas_two, fns_two, b3, b4, c7, c8]
        rfl
      have e2 : (fns.map fun d => He.fnW (frS s) d.at_) = fns.map He.DefD.val := by
        rw [fns_maps, fns_maps He.DefD.val, b2, c4]
      unfold He.obsT He.obsD He.valT He.valD
      rw [e1, e2, c5, c6]
    show some (_, _, obT s) = _
    rw [e]
    exact congrArg some (Prod.ext a1 (Prod.ext a2 rfl))
theorem run_f (w : World) (os : OsState) : RunAt (w.withFollow "special-get-raises" false) os := run_join _ os (run1_f w os) (run2_f w os) (run3_f w os)
theorem run_t (w : World) (os : OsState) : RunAt (w.withFollow "special-get-raises" true) os := run_join _ os (run1_t w os) (run2_t w os) (run3_t w os)
theorem run (w : World) : HeadRun.RunEqS Rw qv hookA obT 12000 nmAll w :=
  PySem.W.byRow2 "special-get-raises" (P := fun w => HeadRun.RunEqS Rw qv hookA obT 12000 nmAll w) (fun w os => run_f w os) (fun w os => run_t w os) w
end Q
set_option Elab.async false
set_option linter.all false
set_option maxRecDepth 100000
set_option maxHeartbeats 4000000
namespace Q
open PySem PySem.Spec PyProof.Rows L2
/-! ### promises by the number of arguments -/
abbrev P0 := Hp → VK → XK → Prop
def sp1 (P : V → P0) : Sp := fun vs H Q E => ∃ a, vs = [a] ∧ P a H Q E
def sp2 (P : V → V → P0) : Sp := fun vs H Q E => ∃ a b, vs = [a, b] ∧ P a b H Q E
def sp3 (P : V → V → V → P0) : Sp := fun vs H Q E => ∃ a b c, vs = [a, b, c] ∧ P a b c H Q E
def sp4 (P : V → V → V → V → P0) : Sp := fun vs H Q E => ∃ a b c d, vs = [a, b, c, d] ∧ P a b c d H Q E
def sp5 (P : V → V → V → V → V → P0) : Sp := fun vs H Q E => ∃ a b c d e, vs = [a, b, c, d, e] ∧ P a b c d e H Q E
theorem sp1_len {P : V → P0} {x : Str} : ∀ vs H Q E, sp1 P vs H Q E → vs.length = [x].length := by
  rintro vs H Q E ⟨a, rfl, _⟩; rfl
theorem sp2_len {P : V → V → P0} {x y : Str} : ∀ vs H Q E, sp2 P vs H Q E → vs.length = [x, y].length := by
  rintro vs H Q E ⟨a, b, rfl, _⟩; rfl
theorem sp3_len {P : V → V → V → P0} {x y z : Str} : ∀ vs H Q E, sp3 P vs H Q E → vs.length = [x, y, z].length := by
  rintro vs H Q E ⟨a, b, c, rfl, _⟩; rfl
theorem sp4_len {P : V → V → V → V → P0} {x y z u : Str} : ∀ vs H Q E, sp4 P vs H Q E → vs.length = [x, y, z, u].length := by
  rintro vs H Q E ⟨a, b, c, d, rfl, _⟩; rfl
theorem sp5_len {P : V → V → V → V → V → P0} {x y z u t : Str} : ∀ vs H Q E, sp5 P vs H Q E → vs.length = [x, y, z, u, t].length := by
  rintro vs H Q E ⟨a, b, c, d, e, rfl, _⟩; rfl
/-! ### the heap -/
/-- all but what S tells stands -/
def Frm (S : Addr → Prop) (H H' : Hp) : Prop := ∀ b o, H b = some o → ¬ S b → H' b = some o
theorem _root_.L2.Same.frm {S : Addr → Prop} {H H' : Hp} (h : Same H H') : Frm S H H' := fun b o e _ => h b o e
theorem Frm.trans {S : Addr → Prop} {H H1 H2 : Hp} (a : Frm S H H1) (b : Frm S H1 H2) : Frm S H H2 := fun c o e n => b c o (a c o e n) n
theorem Frm.refl {S : Addr → Prop} (H : Hp) : Frm S H H := fun _ _ e _ => e
theorem Frm.imp {S S' : Addr → Prop} {H H' : Hp} (a : Frm S H H') (h : ∀ b, S b → S' b) : Frm S' H H' := fun b o e n => a b o e fun z => n (h b z)
theorem _root_.L2.Same.new {H : Hp} {p : Addr} {o : HO} (h : H p = none) : Same H (upd H p o) := fun b u e => by
  rw [upd_ne (ne_of_none e h)]; exact e
theorem _root_.L2.Same.to {H H1 : Hp} {p : Addr} {o : HO} (s : Same H H1) (h : H1 p = none) : Same H (upd H1 p o) := s.trans (Same.new h)
/-- an object that H did not know has changed -/
theorem _root_.L2.Same.put {H H1 : Hp} {p : Addr} {o : HO} (s : Same H H1) (h : H p = none) : Same H (upd H1 p o) := fun b u e => by
  rw [upd_ne (ne_of_none e h)]; exact s b u e
theorem Frm.put {S : Addr → Prop} {H H1 : Hp} {p : Addr} {o : HO} (s : Frm S H H1) (h : H p = none ∨ S p) : Frm S H (upd H1 p o) := fun b u e n => by
  rw [upd_ne ?_]
  · exact s b u e n
  · rintro rfl
    rcases h with h | h
    · rw [e] at h; cases h
    · exact n h
theorem _root_.L2.Same.seqT {K : PySem.W.Frag} {H H' : Hp} {a : Addr} {xs : List V} (e : Same H H') (h : SqT K H a xs) : SqT K H' a xs := by
  rcases h with (h | ⟨o, h⟩) | h
  · exact .inl (.inl (e _ _ h))
  · exact .inl (.inr ⟨o, e _ _ h⟩)
  · exact .inr h
/-! ### fractions -/
abbrev Fr := Qu.Fr
def FrV (K : PySem.W.Frag) (H : Hp) (v : V) (q : Fr) : Prop := ∃ a, v = .ref a ∧ SqT K H a [.int q.num, .int (q.den : Int)]
theorem FrV.same {K : PySem.W.Frag} {H H' : Hp} {v : V} {q : Fr} (e : Same H H') (h : FrV K H v q) : FrV K H' v q := by
  obtain ⟨a, rfl, h⟩ := h
  exact ⟨a, rfl, e.seqT h⟩
theorem frv_new {K : PySem.W.Frag} {H : Hp} {p : Addr} {q : Fr} : FrV K (upd H p (.tup [.int q.num, .int (q.den : Int)])) (.ref p) q := ⟨p, rfl, SqT.of upd_same⟩
/-- the answer is a fraction, nothing else changes -/
def GivesF (K : PySem.W.Frag) (q : Fr) (H : Hp) (Q : VK) : Prop := ∀ v H', Same H H' → FrV K H' v q → Q v H'
theorem at0 {α : Type} {a : α} {l : List α} : atI (a :: l) 0 = some a := by
  have h := atI_nat (xs := a :: l) (j := 0) (v := a) rfl
  exact h
theorem at1 {α : Type} {a b : α} {l : List α} : atI (a :: b :: l) 1 = some b := by
  have h := atI_nat (xs := a :: b :: l) (j := 1) (v := b) rfl
  exact h
theorem at2 {α : Type} {a b c : α} {l : List α} : atI (a :: b :: c :: l) 2 = some c := by
  have h := atI_nat (xs := a :: b :: c :: l) (j := 2) (v := c) rfl
  exact h
/-- bounds of two factors -/
theorem cmul {i j : Int} {a b : Nat} (ha : i.natAbs < 2 ^ a) (hb : j.natAbs < 2 ^ b) (h : a + b ≤ 9000) : CMulW i j := by
  refine wide_mul (a := a + 1) (b := b + 1) (Qu.pow_up ha (by omega)) (Qu.pow_up hb (by omega)) (by omega) (by omega) (by omega)
theorem den_lt {q : Fr} {n : Nat} (h : Qu.Bd n q) : ((q.den : Int)).natAbs < 2 ^ n := by
  rw [Int.natAbs_natCast]; exact h.2
end Q
set_option Elab.async false
set_option linter.all false
set_option maxRecDepth 100000
set_option maxHeartbeats 4000000
namespace Q
open PySem PySem.Spec PyProof.Rows L2
/-! ### fractions -/
def sp_divisor_of (K : PySem.W.Frag) : Sp := sp2 fun a b H Q _ => ∃ i j : Int, a = .int i ∧ b = .int j ∧ 0 < j ∧ Q (.int (Nat.gcd i.natAbs j.natAbs : Nat)) H
theorem ok_divisor_of {w : World} {K : PySem.W.Frag} {mg : Str → Option Value} {base : Heap} (T : Txt w K mg) : OKF w K mg base (CX0) 1 d_divisor_of ["one", "other"] (sp_divisor_of K) := by
  refine okf_mk (k := 0) T 0 rfl sc_divisor_of rfl rfl (fun _ _ _ _ _ _ us hl => match us, hl with | [_, _], _ => rfl) sp2_len (fun f cdv A outer s H vs Q E hr h => ?_)
  refine ⟨_, (PSs.nox (pss_cons (ps_set (i := 0) sc_divisor_of.nd rfl (Or.inl rfl) (pe_callB call_abs rfl T.f_abs (by decide +kernel) (pa_cons (pv 0) pa_nil)))
      (pss_cons (ps_while PassesOwn.never (pt_cmpR op_gt (pv 1) pe_int (nomark _))
      (pss_one (ps_par (i := 0) (j := 1) rfl sc_divisor_of.nd rfl rfl (by decide) rfl rfl (pa_cons (pv 1) (pa_cons (pe_op op_mod (pv 0) (pv 1)) pa_nil)) (by rfl))))
      (pss_one (ps_ret (pv 0)))))), ?_⟩
  obtain ⟨_, _, rfl, i, j, rfl, rfl, hj, hQ⟩ := h
  refine ⟨_, rfl, _, rfl, ?_⟩
  refine while_by (fun σ H' => H' = H ∧ ∃ x y : Int, σ = [some (.int x), some (.int y)] ∧ 0 ≤ x ∧ 0 ≤ y ∧ Nat.gcd x.natAbs y.natAbs = Nat.gcd i.natAbs j.natAbs) (fun σ _ => match σ with | [_, some (.int y)] => y.toNat | _ => 0) ⟨rfl, _, j, rfl, by split <;> omega, by omega, by split <;> simp⟩ ?_ ?_
  · rintro σ H' ⟨rfl, x, y, rfl, hx, hy, hg⟩
    refine ⟨_, rfl, _, _, rfl, rfl, _, rfl, ?_⟩
    refine ite2 (fun c => ?_) (fun c => ?_)
    · have c' : 0 < y := of_decide_eq_true c
      obtain ⟨g1, g2, g3⟩ := Qu.gcd_turn hx c'
      refine ⟨_, rfl, _, rfl, _, rfl, _, _, rfl, rfl, c', _, _, rfl, ⟨rfl, _, _, rfl, by omega, g2, by rw [g1, hg]⟩, ?_⟩
      show (x % y).toNat < y.toNat
      omega
    · have c' : y = 0 := by
        have : ¬ 0 < y := fun z => c (decide_eq_true z)
        omega
      subst c'
      refine ⟨_, rfl, ?_⟩
      rw [← hg, Int.natAbs_zero, Nat.gcd_zero_right] at hQ
      have e : ((x.natAbs : Nat) : Int) = x := by omega
      rw [e] at hQ
      exact hQ
  · rintro σ H Q Q' hm ⟨v, h1, i, j, h2, h3, c, h4, h5⟩
    exact ⟨v, h1, i, j, h2, h3, c, h4, hm _ _ h5⟩
def sp_reduced (K : PySem.W.Frag) : Sp := sp2 fun a b H Q _ => ∃ (i : Int) (d : Nat) (n : Nat), a = .int i ∧ b = .int (d : Int) ∧ 0 < d ∧ d < 2 ^ n ∧ n ≤ 9000 ∧ GivesF K (Lrx1.reduce i d) H Q
theorem ok_reduced {w : World} {K : PySem.W.Frag} {mg : Str → Option Value} {base : Heap} (T : Txt w K mg) : OKF w K mg base (CX0) 2 d_reduced ["top", "bottom"] (sp_reduced K) := by
  refine okf_mk (k := 1) T 1 rfl sc_reduced rfl rfl (fun _ _ _ _ _ _ us hl => match us, hl with | [_, _], _ => rfl) sp2_len (fun f cdv A outer s H vs Q E hr h => ?_)
  refine ⟨_, (PSs.nox (pss_cons (ps_set (i := 2) sc_reduced.nd rfl (Or.inl rfl) (pe_ok (ok_divisor_of T) (hr.mono (by decide)) rfl T.g_divisor_of pass0 (pa_cons (pv 0) (pa_cons (pv 1) pa_nil))))
      (pss_one (ps_ret (pe_tup (pa_cons (pe_op op_fdivW (pv 0) (pv 2)) (pa_cons (pe_op op_fdivW (pv 1) (pv 2)) pa_nil))))))), ?_⟩
  obtain ⟨_, _, rfl, i, d, n, rfl, rfl, hd, hn, hm, hQ⟩ := h
  refine ⟨_, rfl, _, rfl, _, _, rfl, i, d, rfl, rfl, by omega, ?_⟩
  rw [Int.natAbs_natCast]
  have gp := Qu.gcd_pos (n := i) hd
  have gl : Nat.gcd i.natAbs d < 2 ^ (n + 1) := Nat.lt_of_le_of_lt (Nat.le_of_dvd hd (Nat.gcd_dvd_right _ _)) (Qu.pow_up hn (by omega))
  have cd : CDivW i ((Nat.gcd i.natAbs d : Nat) : Int) := by
    refine ⟨by omega, ?_⟩
    rw [Int.natAbs_natCast]
    have := Nat.lt_of_le_of_lt (Nat.le_of_dvd hd (Nat.gcd_dvd_right i.natAbs d)) hn
    rw [Nat.log2_lt (by omega)]
    exact Qu.pow_up this hm
  refine ⟨_, rfl, _, rfl, _, _, rfl, rfl, cd, _, rfl, _, rfl, _, _, rfl, rfl, cd, (by show 2 ≤ sizeLine; decide), fun p hp => ?_⟩
  refine hQ _ _ (Same.new hp) ⟨p, rfl, SqT.of ?_⟩
  rw [upd_same, Qu.reduce_eq hd]
  rfl
/-- two fractions in lowest terms, together small -/
structure Two (K : PySem.W.Frag) (H : Hp) (a b : V) (x y : Fr) (m n : Nat) : Prop where
  fa : FrV K H a x
  fb : FrV K H b y
  ra : Qu.Red x
  rb : Qu.Red y
  ba : Qu.Bd m x
  bb : Qu.Bd n y
  le : m + n ≤ 8000
def sp_plus (K : PySem.W.Frag) : Sp := sp2 fun a b H Q _ => ∃ x y m n, Two K H a b x y m n ∧ GivesF K (Lrx1.add x y) H Q
def sp_less (K : PySem.W.Frag) : Sp := sp2 fun a b H Q _ => ∃ x y m n, Two K H a b x y m n ∧ GivesF K (Lrx1.sub x y) H Q
def sp_times (K : PySem.W.Frag) : Sp := sp2 fun a b H Q _ => ∃ x y m n, Two K H a b x y m n ∧ GivesF K (Lrx1.mul x y) H Q
def sp_over (K : PySem.W.Frag) : Sp := sp2 fun a b H Q _ => ∃ x y m n, Two K H a b x y m n ∧ y.num ≠ 0 ∧ GivesF K (Lrx1.divide x y) H Q
theorem ok_plus {w : World} {K : PySem.W.Frag} {mg : Str → Option Value} {base : Heap} (T : Txt w K mg) : OKF w K mg base (CX0) 3 d_plus ["one", "other"] (sp_plus K) := by
  refine okf_mk (k := 2) T 2 rfl sc_plus rfl rfl (fun _ _ _ _ _ _ us hl => match us, hl with | [_, _], _ => rfl) sp2_len (fun f cdv A outer s H vs Q E hr h => ?_)
  refine ⟨_, (PSs.nox (pss_one (ps_ret (pe_ok (ok_reduced T) (hr.mono (by decide)) rfl T.g_reduced pass0 (pa_cons (pe_op op_add (pe_op op_mulW (pe_ix ix_tup (pv 0) pe_int (fun _ _ => rfl)) (pe_ix ix_tup (pv 1) pe_int (fun _ _ => rfl))) (pe_op op_mulW (pe_ix ix_tup (pv 1) pe_int (fun _ _ => rfl)) (pe_ix ix_tup (pv 0) pe_int (fun _ _ => rfl)))) (pa_cons (pe_op op_mulW (pe_ix ix_tup (pv 0) pe_int (fun _ _ => rfl)) (pe_ix ix_tup (pv 1) pe_int (fun _ _ => rfl))) pa_nil)))))), ?_⟩
  obtain ⟨_, _, rfl, x, y, m, n, ⟨⟨ax, rfl, fx⟩, ⟨ay, rfl, fy⟩, rx, ry, bx, byy, le⟩, hQ⟩ := h
  refine ⟨_, rfl, _, _, _, _, rfl, rfl, fx, at0, _, rfl, _, _, _, _, rfl, rfl, fy, at1, _, _, rfl, rfl, cmul bx.1 (den_lt byy) (by omega), ?_⟩
  refine ⟨_, rfl, _, _, _, _, rfl, rfl, fy, at0, _, rfl, _, _, _, _, rfl, rfl, fx, at1, _, _, rfl, rfl, cmul byy.1 (den_lt bx) (by omega), _, _, rfl, rfl, ?_⟩
  refine ⟨_, rfl, _, _, _, _, rfl, rfl, fx, at1, _, rfl, _, _, _, _, rfl, rfl, fy, at1, _, _, rfl, rfl, cmul (den_lt bx) (den_lt byy) (by omega), ?_⟩
  exact ⟨_, _, rfl, _, x.den * y.den, m + n, rfl, congrArg V.int (Int.natCast_mul _ _).symm, Nat.mul_pos rx.pos ry.pos, Qu.mul_lt2 bx.2 byy.2, by omega, hQ⟩
theorem ok_less {w : World} {K : PySem.W.Frag} {mg : Str → Option Value} {base : Heap} (T : Txt w K mg) : OKF w K mg base (CX0) 3 d_less ["one", "other"] (sp_less K) := by
  refine okf_mk (k := 2) T 3 rfl sc_less rfl rfl (fun _ _ _ _ _ _ us hl => match us, hl with | [_, _], _ => rfl) sp2_len (fun f cdv A outer s H vs Q E hr h => ?_)
  refine ⟨_, (PSs.nox (pss_one (ps_ret (pe_ok (ok_reduced T) (hr.mono (by decide)) rfl T.g_reduced pass0 (pa_cons (pe_op op_sub (pe_op op_mulW (pe_ix ix_tup (pv 0) pe_int (fun _ _ => rfl)) (pe_ix ix_tup (pv 1) pe_int (fun _ _ => rfl))) (pe_op op_mulW (pe_ix ix_tup (pv 1) pe_int (fun _ _ => rfl)) (pe_ix ix_tup (pv 0) pe_int (fun _ _ => rfl)))) (pa_cons (pe_op op_mulW (pe_ix ix_tup (pv 0) pe_int (fun _ _ => rfl)) (pe_ix ix_tup (pv 1) pe_int (fun _ _ => rfl))) pa_nil)))))), ?_⟩
  obtain ⟨_, _, rfl, x, y, m, n, ⟨⟨ax, rfl, fx⟩, ⟨ay, rfl, fy⟩, rx, ry, bx, byy, le⟩, hQ⟩ := h
  refine ⟨_, rfl, _, _, _, _, rfl, rfl, fx, at0, _, rfl, _, _, _, _, rfl, rfl, fy, at1, _, _, rfl, rfl, cmul bx.1 (den_lt byy) (by omega), ?_⟩
  refine ⟨_, rfl, _, _, _, _, rfl, rfl, fy, at0, _, rfl, _, _, _, _, rfl, rfl, fx, at1, _, _, rfl, rfl, cmul byy.1 (den_lt bx) (by omega), _, _, rfl, rfl, ?_⟩
  refine ⟨_, rfl, _, _, _, _, rfl, rfl, fx, at1, _, rfl, _, _, _, _, rfl, rfl, fy, at1, _, _, rfl, rfl, cmul (den_lt bx) (den_lt byy) (by omega), ?_⟩
  exact ⟨_, _, rfl, _, x.den * y.den, m + n, rfl, congrArg V.int (Int.natCast_mul _ _).symm, Nat.mul_pos rx.pos ry.pos, Qu.mul_lt2 bx.2 byy.2, by omega, hQ⟩
theorem ok_times {w : World} {K : PySem.W.Frag} {mg : Str → Option Value} {base : Heap} (T : Txt w K mg) : OKF w K mg base (CX0) 3 d_times ["one", "other"] (sp_times K) := by
  refine okf_mk (k := 2) T 4 rfl sc_times rfl rfl (fun _ _ _ _ _ _ us hl => match us, hl with | [_, _], _ => rfl) sp2_len (fun f cdv A outer s H vs Q E hr h => ?_)
  refine ⟨_, (PSs.nox (pss_one (ps_ret (pe_ok (ok_reduced T) (hr.mono (by decide)) rfl T.g_reduced pass0 (pa_cons (pe_op op_mulW (pe_ix ix_tup (pv 0) pe_int (fun _ _ => rfl)) (pe_ix ix_tup (pv 1) pe_int (fun _ _ => rfl))) (pa_cons (pe_op op_mulW (pe_ix ix_tup (pv 0) pe_int (fun _ _ => rfl)) (pe_ix ix_tup (pv 1) pe_int (fun _ _ => rfl))) pa_nil)))))), ?_⟩
  obtain ⟨_, _, rfl, x, y, m, n, ⟨⟨ax, rfl, fx⟩, ⟨ay, rfl, fy⟩, rx, ry, bx, byy, le⟩, hQ⟩ := h
  refine ⟨_, rfl, _, _, _, _, rfl, rfl, fx, at0, _, rfl, _, _, _, _, rfl, rfl, fy, at0, _, _, rfl, rfl, cmul bx.1 byy.1 (by omega), ?_⟩
  refine ⟨_, rfl, _, _, _, _, rfl, rfl, fx, at1, _, rfl, _, _, _, _, rfl, rfl, fy, at1, _, _, rfl, rfl, cmul (den_lt bx) (den_lt byy) (by omega), ?_⟩
  exact ⟨_, _, rfl, _, x.den * y.den, m + n, rfl, congrArg V.int (Int.natCast_mul _ _).symm, Nat.mul_pos rx.pos ry.pos, Qu.mul_lt2 bx.2 byy.2, by omega, hQ⟩
theorem ok_over {w : World} {K : PySem.W.Frag} {mg : Str → Option Value} {base : Heap} (T : Txt w K mg) : OKF w K mg base (CX0) 3 d_over ["one", "other"] (sp_over K) := by
  refine okf_mk (k := 2) T 5 rfl sc_over rfl rfl (fun _ _ _ _ _ _ us hl => match us, hl with | [_, _], _ => rfl) sp2_len (fun f cdv A outer s H vs Q E hr h => ?_)
  refine ⟨_, (PSs.nox (pss_cons (ps_if (pt_cmpR op_lt (pe_ix ix_tup (pv 1) pe_int (fun _ _ => rfl)) pe_int (nomark _)) (pss_one (ps_ret (pe_ok (ok_reduced T) (hr.mono (by decide)) rfl T.g_reduced pass0 (pa_cons (pe_op op_sub pe_int (pe_op op_mulW (pe_ix ix_tup (pv 0) pe_int (fun _ _ => rfl)) (pe_ix ix_tup (pv 1) pe_int (fun _ _ => rfl)))) (pa_cons (pe_op op_sub pe_int (pe_op op_mulW (pe_ix ix_tup (pv 0) pe_int (fun _ _ => rfl)) (pe_ix ix_tup (pv 1) pe_int (fun _ _ => rfl)))) pa_nil)))))
      pss_nil)
      (pss_one (ps_ret (pe_ok (ok_reduced T) (hr.mono (by decide)) rfl T.g_reduced pass0 (pa_cons (pe_op op_mulW (pe_ix ix_tup (pv 0) pe_int (fun _ _ => rfl)) (pe_ix ix_tup (pv 1) pe_int (fun _ _ => rfl))) (pa_cons (pe_op op_mulW (pe_ix ix_tup (pv 0) pe_int (fun _ _ => rfl)) (pe_ix ix_tup (pv 1) pe_int (fun _ _ => rfl))) pa_nil))))))), ?_⟩
  obtain ⟨_, _, rfl, x, y, m, n, ⟨⟨ax, rfl, fx⟩, ⟨ay, rfl, fy⟩, rx, ry, bx, byy, le⟩, hn, hQ⟩ := h
  refine ⟨_, rfl, _, _, _, _, rfl, rfl, fy, at0, _, _, rfl, rfl, _, rfl, ?_⟩
  refine ite2 (fun c => ?_) (fun c => ?_)
  · have c' : y.num < 0 := of_decide_eq_true c
    refine ⟨_, rfl, _, _, _, _, rfl, rfl, fx, at0, _, rfl, _, _, _, _, rfl, rfl, fy, at1, _, _, rfl, rfl, cmul bx.1 (den_lt byy) (by omega), _, _, rfl, rfl, ?_⟩
    refine ⟨_, rfl, _, _, _, _, rfl, rfl, fx, at1, _, rfl, _, _, _, _, rfl, rfl, fy, at0, _, _, rfl, rfl, cmul (den_lt bx) byy.1 (by omega), _, _, rfl, rfl, ?_⟩
    refine ⟨_, _, rfl, _, x.den * y.num.natAbs, m + n, rfl, congrArg V.int ?_, Nat.mul_pos rx.pos (by omega), Qu.mul_lt2 bx.2 byy.1, by omega, ?_⟩
    · have e : ((y.num.natAbs : Nat) : Int) = - y.num := by omega
      rw [Int.natCast_mul, e, Int.mul_neg, Int.zero_sub]
    · have e : Lrx1.divide x y = Lrx1.reduce (0 - x.num * (y.den : Int)) (x.den * y.num.natAbs) := by
        unfold Lrx1.divide
        rw [if_pos c', Int.zero_sub]
      rw [← e]
      exact hQ
  · have c' : ¬ y.num < 0 := fun z => c (decide_eq_true z)
    refine ⟨_, rfl, _, _, _, _, rfl, rfl, fx, at0, _, rfl, _, _, _, _, rfl, rfl, fy, at1, _, _, rfl, rfl, cmul bx.1 (den_lt byy) (by omega), ?_⟩
    refine ⟨_, rfl, _, _, _, _, rfl, rfl, fx, at1, _, rfl, _, _, _, _, rfl, rfl, fy, at0, _, _, rfl, rfl, cmul (den_lt bx) byy.1 (by omega), ?_⟩
    refine ⟨_, _, rfl, _, x.den * y.num.natAbs, m + n, rfl, congrArg V.int ?_, Nat.mul_pos rx.pos (by omega), Qu.mul_lt2 bx.2 byy.1, by omega, ?_⟩
    · have e : ((y.num.natAbs : Nat) : Int) = y.num := by omega
      rw [Int.natCast_mul, e]
    · have e : Lrx1.divide x y = Lrx1.reduce (x.num * (y.den : Int)) (x.den * y.num.natAbs) := by
        unfold Lrx1.divide
        rw [if_neg c']
      rw [← e]
      exact hQ
def sp_opposite (K : PySem.W.Frag) : Sp := sp1 fun a H Q _ => ∃ x, FrV K H a x ∧ GivesF K (Qu.opp x) H Q
theorem ok_opposite {w : World} {K : PySem.W.Frag} {mg : Str → Option Value} {base : Heap} (T : Txt w K mg) : OKF w K mg base (CX0) 1 d_opposite ["one"] (sp_opposite K) := by
  refine okf_mk (k := 0) T 6 rfl sc_opposite rfl rfl (fun _ _ _ _ _ _ us hl => match us, hl with | [_], _ => rfl) sp1_len (fun f cdv A outer s H vs Q E hr h => ?_)
  refine ⟨_, (PSs.nox (pss_one (ps_ret (pe_tup (pa_cons (pe_op op_sub pe_int (pe_ix ix_tup (pv 0) pe_int (fun _ _ => rfl))) (pa_cons (pe_ix ix_tup (pv 0) pe_int (fun _ _ => rfl)) pa_nil)))))), ?_⟩
  obtain ⟨_, rfl, x, ⟨ax, rfl, fx⟩, hQ⟩ := h
  refine ⟨_, rfl, _, _, _, _, rfl, rfl, fx, at0, _, _, rfl, rfl, _, rfl, _, _, _, _, rfl, rfl, fx, at1, (by show 2 ≤ sizeLine; decide), fun p hp => ?_⟩
  exact hQ _ _ (Same.new hp) ⟨p, rfl, SqT.of upd_same⟩
theorem short_eq (x : Fr) : Lrx9.isShort x = (decide ((x.num.natAbs : Int) < 1000000000) && decide ((x.den : Int) < 1000000000)) := by
  unfold Lrx9.isShort
  rw [Bool.decide_and]
  have h1 : (x.num.natAbs < 10 ^ 9) ↔ ((x.num.natAbs : Int) < 1000000000) := by omega
  have h2 : (x.den < 10 ^ 9) ↔ ((x.den : Int) < 1000000000) := by omega
  simp only [h1, h2]
def sp_is_near (K : PySem.W.Frag) : Sp := sp1 fun a H Q _ => ∃ x, FrV K H a x ∧ Q (.bl (Lrx9.isShort x)) H
theorem ok_is_near {w : World} {K : PySem.W.Frag} {mg : Str → Option Value} {base : Heap} (T : Txt w K mg) : OKF w K mg base (CX0) 1 d_is_near ["one"] (sp_is_near K) := by
  refine okf_mk (k := 0) T 7 rfl sc_is_near rfl rfl (fun _ _ _ _ _ _ us hl => match us, hl with | [_], _ => rfl) sp1_len (fun f cdv A outer s H vs Q E hr h => ?_)
  refine ⟨_, (PSs.nox (pss_one (ps_ret (pe_and (pe_cmpR op_lt (pe_callB call_abs rfl T.f_abs (by decide +kernel) (pa_cons (pe_ix ix_tup (pv 0) pe_int (fun _ _ => rfl)) pa_nil)) (pe_gint rfl (T.int_FAR)) (nomark _)) (pe_one (pe_cmpR op_lt (pe_ix ix_tup (pv 0) pe_int (fun _ _ => rfl)) (pe_gint rfl (T.int_FAR)) (nomark _))))))), ?_⟩
  obtain ⟨_, rfl, x, ⟨ax, rfl, fx⟩, hQ⟩ := h
  refine ⟨_, rfl, _, _, _, _, rfl, rfl, fx, at0, _, rfl, _, _, rfl, rfl, _, rfl, ?_⟩
  have e1 : (if x.num < 0 then -x.num else x.num) = (x.num.natAbs : Int) := by split <;> omega
  rw [e1]
  rw [short_eq] at hQ
  revert hQ
  cases decide ((x.num.natAbs : Int) < 1000000000) with
  | true =>
    intro hQ
    refine iteT ?_
    refine ⟨_, rfl, _, _, _, _, rfl, rfl, fx, at1, _, _, rfl, rfl, ?_⟩
    rw [Bool.true_and] at hQ
    exact hQ
  | false =>
    intro hQ
    exact iteF hQ
def within (x : Fr) (lo hi : Int) : Bool := decide (lo * (x.den : Int) ≤ x.num) && decide (x.num ≤ hi * (x.den : Int))
/-- a small bound -/
def SmI (i : Int) : Prop := i.natAbs < 2 ^ 40
def sp_is_within (K : PySem.W.Frag) : Sp := sp3 fun a b c H Q _ => ∃ x lo hi m, FrV K H a x ∧ b = .int lo ∧ c = .int hi ∧ SmI lo ∧ SmI hi ∧ Qu.Bd m x ∧ m ≤ 8000 ∧ Q (.bl (within x lo hi)) H
theorem ok_is_within {w : World} {K : PySem.W.Frag} {mg : Str → Option Value} {base : Heap} (T : Txt w K mg) : OKF w K mg base (CX0) 1 d_is_within ["one", "low", "high"] (sp_is_within K) := by
  refine okf_mk (k := 0) T 8 rfl sc_is_within rfl rfl (fun _ _ _ _ _ _ us hl => match us, hl with | [_, _, _], _ => rfl) sp3_len (fun f cdv A outer s H vs Q E hr h => ?_)
  refine ⟨_, (PSs.nox (pss_one (ps_ret (pe_and (pe_cmpR op_le (pe_op op_mulW (pv 1) (pe_ix ix_tup (pv 0) pe_int (fun _ _ => rfl))) (pe_ix ix_tup (pv 0) pe_int (fun _ _ => rfl)) (nomark _)) (pe_one (pe_cmpR op_le (pe_ix ix_tup (pv 0) pe_int (fun _ _ => rfl)) (pe_op op_mulW (pv 2) (pe_ix ix_tup (pv 0) pe_int (fun _ _ => rfl))) (nomark _))))))), ?_⟩
  obtain ⟨_, _, _, rfl, x, lo, hi, m, ⟨ax, rfl, fx⟩, rfl, rfl, s1, s2, bx, hm, hQ⟩ := h
  refine ⟨_, rfl, _, rfl, _, _, _, _, rfl, rfl, fx, at1, _, _, rfl, rfl, cmul s1 (den_lt bx) (by omega), _, rfl, _, _, _, _, rfl, rfl, fx, at0, _, _, rfl, rfl, _, rfl, ?_⟩
  unfold within at hQ
  by_cases c : lo * (x.den : Int) ≤ x.num
  · rw [decide_eq_true c] at hQ ⊢
    refine iteT ?_
    refine ⟨_, rfl, _, _, _, _, rfl, rfl, fx, at0, _, rfl, _, rfl, _, _, _, _, rfl, rfl, fx, at1, _, _, rfl, rfl, cmul s2 (den_lt bx) (by omega), _, _, rfl, rfl, ?_⟩
    exact hQ
  · rw [decide_eq_false c] at hQ ⊢
    exact iteF hQ
def sp_is_whole_within (K : PySem.W.Frag) : Sp := sp3 fun a b c H Q _ => ∃ x lo hi m, FrV K H a x ∧ b = .int lo ∧ c = .int hi ∧ SmI lo ∧ SmI hi ∧ Qu.Bd m x ∧ m ≤ 8000 ∧ Q (.bl (decide (x.den = 1) && within x lo hi)) H
theorem ok_is_whole_within {w : World} {K : PySem.W.Frag} {mg : Str → Option Value} {base : Heap} (T : Txt w K mg) : OKF w K mg base (CX0) 2 d_is_whole_within ["one", "low", "high"] (sp_is_whole_within K) := by
  refine okf_mk (k := 1) T 9 rfl sc_is_whole_within rfl rfl (fun _ _ _ _ _ _ us hl => match us, hl with | [_, _, _], _ => rfl) sp3_len (fun f cdv A outer s H vs Q E hr h => ?_)
  refine ⟨_, (PSs.nox (pss_one (ps_ret (pe_and (pe_cmpR op_eq (pe_ix ix_tup (pv 0) pe_int (fun _ _ => rfl)) pe_int (nomark _)) (pe_one (pe_ok (ok_is_within T) (hr.mono (by decide)) rfl T.g_is_within pass0 (pa_cons (pv 0) (pa_cons (pv 1) (pa_cons (pv 2) pa_nil))))))))), ?_⟩
  obtain ⟨_, _, _, rfl, x, lo, hi, m, fx', rfl, rfl, s1, s2, bx, hm, hQ⟩ := h
  obtain ⟨ax, rfl, fx⟩ := id fx'
  refine ⟨_, rfl, _, _, _, _, rfl, rfl, fx, at1, rfl, _, rfl, ?_⟩
  have e : decide (V.int (x.den : Int) = V.int 1) = decide (x.den = 1) := by
    by_cases c : x.den = 1
    · rw [c]; rfl
    · rw [decide_eq_false c, decide_eq_false]
      intro z
      injection z with z
      omega
  rw [e]
  cases c : decide (x.den = 1) with
  | false =>
    rw [c] at hQ
    exact iteF hQ
  | true =>
    rw [c] at hQ
    refine iteT ?_
    refine ⟨_, rfl, _, rfl, _, rfl, ?_⟩
    exact ⟨_, _, _, rfl, x, lo, hi, m, fx', rfl, rfl, s1, s2, bx, hm, hQ⟩
end Q
set_option Elab.async false
set_option linter.all false
set_option maxRecDepth 100000
set_option maxHeartbeats 4000000
namespace Q
open PySem PySem.Spec PyProof.Rows L2
/-! ### own errors with an __init__ of their own, made where nothing is handled -/
/-- the made error has no context -/
theorem made_plain {X : Cx} {pins : List (Addr × Obj)} {σ : L2.St} {G0 G1 : Hp} {Q : XK} {ha hb hc : Heap} {ga gb : Array GenState} {da db : Drawn} {ta tb : Nat} {oa ob : OsState} {e C d : Addr} {fs : List (Str × V)}
    (R : Raises X (.ref C)) (I : Inv X pins σ G0 ⟨ha, ga, da, ta, oa⟩) (new : ha.objs.size ≤ e) (kp : ∀ b o, ha.get? b = some o → hb.get? b = some o)
    (un : Un (frs X.stack) [] (upd G0 e (exo e C none)) G1 hb hc) (ok : HOk X.prog X.w G1 hc) (eo : ob = oa) (bare : AllBare gb)
    (ee : G1 e = some (exo e C (some d))) (ed : G1 d = some (exd d fs)) (nd : G0 d = none) (q : Q (.ref C) (some d) (upd (del G1 e) d (.xd fs))) :
    L2N.MkP X pins σ Q (.ref e) ⟨hc, gb, db, tb, ob⟩ := by
  obtain ⟨tu, G, J, up, gone, obj, na⟩ := mk_end0 (d2 := db) (t2 := tb) I new kp un ok eo bare ee ed nd
  have zn : L2N.Zn (.ref C) (some d) { cls := .ref C, dict := some d, data := .fields #[.ref tu, .none, .none, .none, .bool false, .none] } := by
    refine ⟨rfl, rfl, fun vs z => ?_⟩
    cases z
    rfl
  exact ⟨e, _, _, ⟨G, gb, db, tb, ob⟩, _, _, _, rfl, J, up, gone, obj, zn, rfl, rfl, na, rfl, bare, R, q⟩
theorem pmk_init {X : Cx} {CX : CXT} {x : Str} {C : Addr} {k : Nat} {dd : He.DefD} {ps : List Str} {sp : Sp} {e : Expr} {es : List Expr} {ta : TA} {p pos : Pos} (F : OKF X.w X.K X.mg X.base CX k dd ps sp) (T : OexC X.K C)
    (iC : PySem.W.findIn X.K (.ref C) "__init__" = some (some (.ref (He.fAd X.K dd.at_)))) (tI : PySem.W.typeIn X.K (.ref (He.fAd X.K dd.at_)) = some (.type "function")) (hr : Room (k + 1) X.A) (hx : Passes CX X fun _ _ _ => False)
    (hg : Gl X x) (hm : X.mg x = some (.ref C)) (ha : PA X (e :: es) ta) (hp : X.prog = prog := by rfl) (hdb : (x == ("__debug__" : Str)) = false := by decide)
    (hs : starEach (e :: es) X.env = (false, eval e X.env) :: starEach es X.env := by rfl) (hpl : (backTo pos (starEach es X.env)).any (·.1) = false := by rfl) : L2N.PMk X (.Call (.Name x p) (e :: es) [] pos) (tMkO C sp [] ta) := by
  obtain ⟨fd, G, bind⟩ := F.ex
  rw [← hp] at G
  obtain ⟨nm, q, N, bs, bm, sn, sub, ab, col, od, k0, k1, k2, k3, k5, look, refs⟩ := T.cls
  intro pins s σ H Q I h
  refine wpAny_Call_Name_kw (ld_glob I hg hm ?_ hdb)
  refine PySem.W.callWith_K (h₀ := X.base) I.ok.mod.kin T.kC ?_ hs hpl
  refine thn (ha.run pos pins s σ H _ I h) ?_
  rintro us ⟨hp1, gn, dr, tk, os⟩ ⟨vs, H1, I1, rel, small, want⟩
  refine ⟨I1.kIn, ?_⟩
  show wpAny _ _ (call (.ref C) us) _ _ _
  -- the error's address: its arguments' tuple stands before it
  have big : hp1.objs.size ≤ hp1.objs.size + 1 := Nat.le_succ _
  have free : H1 (hp1.objs.size + 1) = none := I1.hok.fresh big
  have want := want _ free
  rw [List.append_nil] at want
  let h2 : Heap := (hp1.push (PySem.W.kdv_tup us)).push (PySem.HandSPX.excO C hp1.objs.size)
  have up : ∀ b o, hp1.get? b = some o → h2.get? b = some o := fun b o z => Heap.get?_push_of_some _ (Heap.get?_push_of_some _ z)
  have there : h2.get? (hp1.objs.size + 1) = some (PySem.HandSPX.excO C hp1.objs.size) := by heap_get
  have J := I1.laid (t' := tk) (h' := h2) (o := exo (hp1.objs.size + 1) C none) up big (exo_ok there)
  have rel2 : Vals (V.ref (hp1.objs.size + 1) :: vs) (Value.ref (hp1.objs.size + 1) :: us) := .cons rfl rel
  have many : (Value.ref (hp1.objs.size + 1) :: us ++ []).length = ps.length := by
    rw [List.append_nil, ← rel2.length]
    exact G.len _ _ _ _ want
  have fits : us.length ≤ sizeLine := by
    rw [← Paired.length rel, sizeLine_eq]
    omega
  have bnd := bind _ (Value.ref (hp1.objs.size + 1) :: us) J.kIn many
  rw [List.append_nil] at bnd
  have run := G.run _ X.stack _ _ ⟨Value.ref (hp1.objs.size + 1) :: us, []⟩ _ _ _ (fun _ _ _ => False) (hr.make C us []) (J.env0.make C us []) bnd rel2 want
  refine wpAny_call (PySem.HandSPX.call_own PySem.F.excBase_ValueError (fun Y => PySem.HandSPX.refsVE_contains Y bm refs) (I1.kIn _ _ look) (PySem.W.looks_findIn I1.kIn iC) (fun self => PySem.W.bind_fn I1.kIn self tI) fits (codeAny_mono run ?_))
  intro r s' hq
  cases r with
  | error er => exact hx pins σ _ _ er s' J hq
  | ok fl =>
    cases fl with
    | next => exact hq.elim
    | brk => exact hq.elim
    | cont => exact hq.elim
    | ret u =>
      obtain ⟨v, H2, eos, bare, un, ok2, rv, ev, d, fs, ea, ed, nd, q2⟩ := hq
      obtain ⟨hh, gg, ddr, tt, oo⟩ := s'
      subst ev
      exact ⟨rv, made_plain (raises_own T.exC T.tyC) I1 big up un ok2 eos bare ea ed nd q2⟩
/-- where all errors are taken, those without a context are -/
theorem takes_N {X : Cx} {W : WX} (tk : L2.Takes X W) : L2N.Takes X W := fun u s' ⟨a, B, sI, pins, σ, H, cls, d, e, I, nb, up, sky, na, os, ag, w⟩ => by
  refine tk u s' ⟨a, B, sI, pins, σ, H, cls, d, e, I, nb, up, ?_, na, os, ag, w⟩
  rcases sky with ⟨s1, s2, s3, oe, vs, g1, g2, g3⟩ | sky | sky
  · exact .inl ⟨s1, s2, s3, oe, vs, g1, g2.zc, g3⟩
  · exact .inr (.inl (L2H.flyingZ_imp (fun o z => z.zc) sky))
  · exact .inr (.inr ⟨sky.1, sky.2.1, sky.2.2.1, L2H.tracedZ_imp (fun o z => z.zc) sky.2.2.2⟩)
theorem Frm.new {S : Addr → Prop} {H H1 : Hp} {p : Addr} {o : HO} (s : Frm S H H1) (h : H1 p = none) : Frm S H (upd H1 p o) := by
  refine s.put ?_
  cases e : H p with
  | none => exact .inl rfl
  | some u =>
    refine .inr (Classical.byContradiction fun n => ?_)
    rw [s p u e n] at h
    cases h
/-! ### LineError -/
abbrev cLine (K : PySem.W.Frag) : Addr := He.ga K "LineError"
def lineX (b c : V) : List (Str × V) := [("kind", c), ("column", b)]
/-- need's own way out -/
theorem raise2 {H : Hp} {E : XK} {C : Addr} {b c : V} {f g : Str} (hE : ∀ d, H d = none → E (.ref C) (some d) (upd H d (.xd [(g, c), (f, b)]))) {a d : Addr} (ha : H a = none) (hd : upd H a (exo a C none) d = none) (ne : d ≠ a) :
    ∃ (d' : Addr) (fs : List (Str × V)), upd (upd (upd (upd H a (exo a C none)) d (exd d [(f, b)])) a (exo a C (some d))) d (exd d [(g, c), (f, b)]) a = some (exo a C (some d')) ∧
      upd (upd (upd (upd H a (exo a C none)) d (exd d [(f, b)])) a (exo a C (some d))) d (exd d [(g, c), (f, b)]) d' = some (exd d' fs) ∧ H d' = none ∧
      E (.ref C) (some d') (upd (del (upd (upd (upd (upd H a (exo a C none)) d (exd d [(f, b)])) a (exo a C (some d))) d (exd d [(g, c), (f, b)])) a) d' (.xd fs)) := by
  rw [upd_ne ne] at hd
  refine ⟨d, _, by rw [upd_ne (Ne.symm ne), upd_same], upd_same, hd, ?_⟩
  have e : upd (del (upd (upd (upd (upd H a (exo a C none)) d (exd d [(f, b)])) a (exo a C (some d))) d (exd d [(g, c), (f, b)])) a) d (.xd [(g, c), (f, b)]) = upd H d (.xd [(g, c), (f, b)]) := by
    funext x
    by_cases h1 : x = d
    · rw [h1, upd_same, upd_same]
    · rw [upd_ne h1, upd_ne h1]
      by_cases h2 : x = a
      · rw [h2, del_same, ha]
      · rw [del_ne h2, upd_ne h1, upd_ne h2, upd_ne h1, upd_ne h2]
  rw [e]
  exact hE d hd
/-- a LineError, all else as it was -/
def LineF (K : PySem.W.Frag) (S : Addr → Prop) (H : Hp) (E : XK) (f : Lrx9.Fault) : Prop := ∀ d H', Frm S H H' → H' d = some (.xd (lineX (.int (f.column : Int)) (.int (f.kind : Int)))) → E (.ref (cLine K)) (some d) H'
def LineS (K : PySem.W.Frag) (H : Hp) (E : XK) (f : Lrx9.Fault) : Prop := LineF K (fun _ => False) H E f
theorem LineF.then {K : PySem.W.Frag} {S : Addr → Prop} {H H1 : Hp} {E : XK} {f : Lrx9.Fault} (h : LineF K S H E f) (s : Frm S H H1) : LineF K S H1 E f := fun d H' s' e => h d H' (s.trans s') e
theorem LineF.sub {K : PySem.W.Frag} {S S' : Addr → Prop} {H : Hp} {E : XK} {f : Lrx9.Fault} (h : LineF K S H E f) (k : ∀ b, S' b → S b) : LineF K S' H E f := fun d H' s' e => h d H' (s'.imp k) e
theorem LineF.at {K : PySem.W.Frag} {S : Addr → Prop} {H : Hp} {E : XK} {f : Lrx9.Fault} (h : LineF K S H E f) {d : Addr} (hd : H d = none) : E (.ref (cLine K)) (some d) (upd H d (.xd (lineX (.int (f.column : Int)) (.int (f.kind : Int))))) :=
  h d _ ((Frm.refl H).new hd) upd_same
theorem Frm.same {H H' : Hp} (h : Frm (fun _ => False) H H') : Same H H' := fun b o e => h b o e id
end Q
set_option Elab.async false
set_option linter.all false
set_option maxRecDepth 100000
set_option maxHeartbeats 4000000
namespace Q
open PySem PySem.Spec PyProof.Rows L2
/-! ### tokens -/
def sp_LineError_init (K : PySem.W.Frag) : Sp := sp3 fun a b c H Q _ => ∃ p, a = .ref p ∧ H p = some (exo p (cLine K) none) ∧
  ∀ d, H d = none → d ≠ p → Q .non (upd (upd (upd H d (exd d [("column", b)])) p (exo p (cLine K) (some d))) d (exd d [("kind", c), ("column", b)]))
theorem ok_LineError_init {w : World} {K : PySem.W.Frag} {mg : Str → Option Value} {base : Heap} (T : Txt w K mg) : OKF w K mg base (CX0) 1 d_LineError_init ["self", "column", "kind"] (sp_LineError_init K) := by
  refine okf_mk (k := 0) T 24 rfl sc_LineError_init rfl rfl (fun _ _ _ _ _ _ us hl => match us, hl with | [_, _, _], _ => rfl) sp3_len (fun f cdv A outer s H vs Q E hr h => ?_)
  refine ⟨_, (PSs.nox (pss_cons (ps_ost (pv 0) (pv 1))
      (pss_one (ps_ost (pv 0) (pv 2))))), ?_⟩
  obtain ⟨_, b, c, rfl, p, rfl, hp, hQ⟩ := h
  refine ⟨_, rfl, _, rfl, p, _, rfl, T.o_LineError.1, T.n_LineError_column, .inl ⟨hp, fun d hd ne => ?_⟩⟩
  refine ⟨_, rfl, _, rfl, p, _, rfl, T.o_LineError.1, T.n_LineError_kind, .inr ⟨d, _, upd_same, ?_, Nat.le_of_ble_eq_true rfl, hQ d hd ne⟩⟩
  rw [upd_ne ne, upd_same]
def sp_need (K : PySem.W.Frag) : Sp := sp3 fun a b c H Q E => ∃ (k : Bool) (f : Lrx9.Fault), a = .bl k ∧ b = .int (f.column : Int) ∧ c = .int (f.kind : Int) ∧ (k = true → Q .non H) ∧ (k = false → LineS K H E f)
theorem ok_need {w : World} {K : PySem.W.Frag} {mg : Str → Option Value} {base : Heap} (T : Txt w K mg) : OKF w K mg base (L2N.CX prog w) 3 d_need ["holds", "column", "kind"] (sp_need K) := by
  refine okf_mk (k := 2) T 25 rfl sc_need rfl rfl (fun _ _ _ _ _ _ us hl => match us, hl with | [_, _, _], _ => rfl) sp3_len (fun f cdv A outer s H vs Q E hr h => ?_)
  refine ⟨_, (pss_one (ps_if (pt_not (pt_val (pv 0))) (pss_one (L2N.ps_raise rfl (L2N.takes_of rfl rfl rfl rfl) (pmk_init (ok_LineError_init T) T.o_LineError.1 T.m_LineError.at_ T.ty_LineError (hr.mono (by decide)) pass0 rfl T.g_LineError (pa_cons (pv 1) (pa_cons (pv 2) pa_nil)))))
      pss_nil)), ?_⟩
  obtain ⟨_, _, _, rfl, k, f, rfl, rfl, rfl, hQ, hE⟩ := h
  refine ⟨_, rfl, _, rfl, ?_⟩
  cases k with
  | true => exact iteF (hQ rfl)
  | false =>
    refine iteT ⟨_, rfl, _, rfl, Nat.le_of_ble_eq_true rfl, fun a ha => ?_⟩
    refine ⟨_, _, _, rfl, a, rfl, upd_same, fun d hd ne => ⟨rfl, ?_⟩⟩
    exact raise2 (fun d hd => (hE rfl).at hd) ha hd ne
def vN (l : List Nat) : List V := l.map fun (b : Nat) => V.int (b : Int)
theorem vN_at {l : List Nat} {k b : Nat} (h : l[k]? = some b) : atI (vN l) (k : Int) = some (.int (b : Int)) := atI_nat (by
  unfold vN
  rw [List.getElem?_map, h]
  rfl)
theorem vN_len {l : List Nat} : (vN l).length = l.length := List.length_map ..
def RowV (K : PySem.W.Frag) (H : Hp) (v : V) (row : List Nat) : Prop := ∃ a, v = .ref a ∧ SqL K H a (vN row)
theorem RowV.same {K : PySem.W.Frag} {H H' : Hp} {v : V} {row : List Nat} (e : Same H H') (h : RowV K H v row) : RowV K H' v row := by
  obtain ⟨a, rfl, h⟩ := h
  exact ⟨a, rfl, e.seq h⟩
def sp_is_letter : Sp := sp1 fun a H Q _ => ∃ n : Nat, a = .int (n : Int) ∧ Q (.bl (Lrx9.isLetter n)) H
def sp_is_digit : Sp := sp1 fun a H Q _ => ∃ n : Nat, a = .int (n : Int) ∧ Q (.bl (Lrx9.isDigit n)) H
theorem ok_is_letter {w : World} {K : PySem.W.Frag} {mg : Str → Option Value} {base : Heap} (T : Txt w K mg) : OKF w K mg base (CX0) 1 d_is_letter ["byte"] (sp_is_letter) := by
  refine okf_mk (k := 0) T 26 rfl sc_is_letter rfl rfl (fun _ _ _ _ _ _ us hl => match us, hl with | [_], _ => rfl) sp1_len (fun f cdv A outer s H vs Q E hr h => ?_)
  refine ⟨_, (PSs.nox (pss_one (ps_ret (pe_and (pe_cmpR op_le pe_int (pv 0) (nomark _)) (pe_one (pe_cmpR op_le (pv 0) pe_int (nomark _))))))), ?_⟩
  obtain ⟨_, rfl, n, rfl, hQ⟩ := h
  have e : Lrx9.isLetter n = (decide ((97 : Int) ≤ (n : Int)) && decide ((n : Int) ≤ 122)) := by
    unfold Lrx9.isLetter
    rw [Bool.decide_and]
    have h1 : (97 ≤ n) ↔ ((97 : Int) ≤ (n : Int)) := by omega
    have h2 : (n ≤ 122) ↔ ((n : Int) ≤ 122) := by omega
    simp only [h1, h2]
  rw [e] at hQ
  refine ⟨_, rfl, _, _, rfl, rfl, _, rfl, ?_⟩
  revert hQ
  cases decide ((97 : Int) ≤ (n : Int)) with
  | true =>
    intro hQ
    rw [Bool.true_and] at hQ
    exact iteT ⟨_, rfl, _, _, rfl, rfl, hQ⟩
  | false => intro hQ; exact iteF hQ
theorem ok_is_digit {w : World} {K : PySem.W.Frag} {mg : Str → Option Value} {base : Heap} (T : Txt w K mg) : OKF w K mg base (CX0) 1 d_is_digit ["byte"] (sp_is_digit) := by
  refine okf_mk (k := 0) T 27 rfl sc_is_digit rfl rfl (fun _ _ _ _ _ _ us hl => match us, hl with | [_], _ => rfl) sp1_len (fun f cdv A outer s H vs Q E hr h => ?_)
  refine ⟨_, (PSs.nox (pss_one (ps_ret (pe_and (pe_cmpR op_le pe_int (pv 0) (nomark _)) (pe_one (pe_cmpR op_le (pv 0) pe_int (nomark _))))))), ?_⟩
  obtain ⟨_, rfl, n, rfl, hQ⟩ := h
  have e : Lrx9.isDigit n = (decide ((48 : Int) ≤ (n : Int)) && decide ((n : Int) ≤ 57)) := by
    unfold Lrx9.isDigit
    rw [Bool.decide_and]
    have h1 : (48 ≤ n) ↔ ((48 : Int) ≤ (n : Int)) := by omega
    have h2 : (n ≤ 57) ↔ ((n : Int) ≤ 57) := by omega
    simp only [h1, h2]
  rw [e] at hQ
  refine ⟨_, rfl, _, _, rfl, rfl, _, rfl, ?_⟩
  revert hQ
  cases decide ((48 : Int) ≤ (n : Int)) with
  | true =>
    intro hQ
    rw [Bool.true_and] at hQ
    exact iteT ⟨_, rfl, _, _, rfl, rfl, hQ⟩
  | false => intro hQ; exact iteF hQ
def sp_name_end (K : PySem.W.Frag) : Sp := sp2 fun a b H Q _ => ∃ row k, RowV K H a row ∧ b = .int ((k : Nat) : Int) ∧ Q (.int (Qu.runEnd Lrx9.isNameByte row k : Nat)) H
def sp_digits_end (K : PySem.W.Frag) : Sp := sp2 fun a b H Q _ => ∃ row k, RowV K H a row ∧ b = .int ((k : Nat) : Int) ∧ Q (.int (Qu.runEnd Lrx9.isDigit row k : Nat)) H
theorem dec_ieq {i j : Nat} : decide (V.int (i : Int) = V.int (j : Int)) = (i == j) := by
  rw [Bool.beq_eq_decide_eq]
  refine decide_eq_decide.mpr ⟨fun h => ?_, fun h => by rw [h]⟩
  injection h with h
  omega
theorem ok_name_end {w : World} {K : PySem.W.Frag} {mg : Str → Option Value} {base : Heap} (T : Txt w K mg) : OKF w K mg base (CX0) 2 d_name_end ["row", "place"] (sp_name_end K) := by
  refine okf_mk (k := 1) T 28 rfl sc_name_end rfl rfl (fun _ _ _ _ _ _ us hl => match us, hl with | [_, _], _ => rfl) sp2_len (fun f cdv A outer s H vs Q E hr h => ?_)
  refine ⟨_, (PSs.nox (pss_cons (ps_while PassesOwn.never (PW.pt (pw_and (pt_cmpR op_lt (pv 1) (pe_callB call_len_seq rfl T.f_len boot_len (pa_cons (pv 0) pa_nil)) (nomark _)) (pw_and1 (PW.pt (pw_or (pt_val (pe_ok (ok_is_letter T) (hr.mono (by decide)) rfl T.g_is_letter pass0 (pa_cons (pe_ix ix_list (pv 0) (pv 1) (fun _ _ => rfl)) pa_nil))) (pw_or (pt_val (pe_ok (ok_is_digit T) (hr.mono (by decide)) rfl T.g_is_digit pass0 (pa_cons (pe_ix ix_list (pv 0) (pv 1) (fun _ _ => rfl)) pa_nil))) (pw_or1 (pt_cmpR op_eq (pe_ix ix_list (pv 0) (pv 1) (fun _ _ => rfl)) (pe_gint rfl (T.int_LOW_LINE)) (nomark _)))))))))
      (pss_one (ps_aug (i := 1) sc_name_end.nd rfl (Or.inl rfl) pe_int ip_add)))
      (pss_one (ps_ret (pv 1))))), ?_⟩
  obtain ⟨_, _, rfl, row, k, ⟨a, rfl, hS⟩, rfl, hQ⟩ := h
  refine ⟨fun m σ H' => H' = H ∧ ∃ p : Nat, σ = [some (.ref a), some (.int (p : Int))] ∧ m = row.length - p ∧ Qu.runEnd Lrx9.isNameByte row p = Qu.runEnd Lrx9.isNameByte row k, ⟨_, rfl, k, rfl, rfl, rfl⟩, ?_⟩
  rintro m σ H' ⟨rfl, p, rfl, rfl, hp⟩
  refine ⟨_, rfl, _, rfl, _, _, rfl, .inl hS, _, _, rfl, rfl, _, rfl, ?_⟩
  rw [vN_len]
  refine ite2 (fun c => ?_) (fun c => ?_)
  · have c' : p < row.length := by have := of_decide_eq_true c; omega
    obtain ⟨b, hb⟩ : ∃ b, row[p]? = some b := ⟨_, List.getElem?_eq_getElem c'⟩
    have ix := vN_at hb
    have done : Lrx9.isNameByte b = false → Q (.int (p : Int)) H' := fun n => by
      rw [← hp, Qu.runEnd_no hb n] at hQ
      exact hQ
    have turn : Lrx9.isNameByte b = true → row.length - (p + 1) < row.length - p ∧ Qu.runEnd Lrx9.isNameByte row (p + 1) = Qu.runEnd Lrx9.isNameByte row k := fun y => ⟨by omega, by rw [← hp, Qu.runEnd_step hb y]⟩
    refine ⟨_, rfl, _, rfl, _, _, _, _, rfl, rfl, hS, ix, _, rfl, b, rfl, _, rfl, ?_⟩
    cases l1 : Lrx9.isLetter b with
    | true =>
      obtain ⟨t1, t2⟩ := turn (by simp [Lrx9.isNameByte, l1])
      exact iteT ⟨fun σ' H'' => ∃ m', m' < row.length - p ∧ (H'' = H' ∧ ∃ q : Nat, σ' = [some (.ref a), some (.int (q : Int))] ∧ m' = row.length - q ∧ Qu.runEnd Lrx9.isNameByte row q = Qu.runEnd Lrx9.isNameByte row k), fun _ _ z => z, _, rfl, _, _, rfl, rfl, _, t1, rfl, p + 1, rfl, rfl, t2⟩
    | false =>
      refine iteF ⟨_, rfl, _, rfl, _, _, _, _, rfl, rfl, hS, ix, _, rfl, b, rfl, _, rfl, ?_⟩
      cases l2 : Lrx9.isDigit b with
      | true =>
        obtain ⟨t1, t2⟩ := turn (by simp [Lrx9.isNameByte, l2])
        exact iteT ⟨fun σ' H'' => ∃ m', m' < row.length - p ∧ (H'' = H' ∧ ∃ q : Nat, σ' = [some (.ref a), some (.int (q : Int))] ∧ m' = row.length - q ∧ Qu.runEnd Lrx9.isNameByte row q = Qu.runEnd Lrx9.isNameByte row k), fun _ _ z => z, _, rfl, _, _, rfl, rfl, _, t1, rfl, p + 1, rfl, rfl, t2⟩
      | false =>
        refine iteF ⟨_, rfl, _, rfl, _, _, _, _, rfl, rfl, hS, ix, rfl, _, rfl, ?_⟩
        have e95 : decide (V.int (b : Int) = V.int 95) = (b == 95) := dec_ieq (j := 95)
        rw [e95]
        cases l3 : (b == 95) with
        | true =>
          obtain ⟨t1, t2⟩ := turn (by simp [Lrx9.isNameByte, l3])
          exact iteT ⟨fun σ' H'' => ∃ m', m' < row.length - p ∧ (H'' = H' ∧ ∃ q : Nat, σ' = [some (.ref a), some (.int (q : Int))] ∧ m' = row.length - q ∧ Qu.runEnd Lrx9.isNameByte row q = Qu.runEnd Lrx9.isNameByte row k), fun _ _ z => z, _, rfl, _, _, rfl, rfl, _, t1, rfl, p + 1, rfl, rfl, t2⟩
        | false => exact iteF ⟨_, rfl, done (by simp [Lrx9.isNameByte, l1, l2, l3])⟩
  · have c' : row.length ≤ p := by
      have : ¬ ((p : Int) < (row.length : Int)) := fun z => c (decide_eq_true z)
      omega
    rw [← hp, Qu.runEnd_out c'] at hQ
    exact iteF ⟨_, rfl, hQ⟩
theorem ok_digits_end {w : World} {K : PySem.W.Frag} {mg : Str → Option Value} {base : Heap} (T : Txt w K mg) : OKF w K mg base (CX0) 2 d_digits_end ["row", "place"] (sp_digits_end K) := by
  refine okf_mk (k := 1) T 29 rfl sc_digits_end rfl rfl (fun _ _ _ _ _ _ us hl => match us, hl with | [_, _], _ => rfl) sp2_len (fun f cdv A outer s H vs Q E hr h => ?_)
  refine ⟨_, (PSs.nox (pss_cons (ps_while PassesOwn.never (PW.pt (pw_and (pt_cmpR op_lt (pv 1) (pe_callB call_len_seq rfl T.f_len boot_len (pa_cons (pv 0) pa_nil)) (nomark _)) (pw_and1 (pt_val (pe_ok (ok_is_digit T) (hr.mono (by decide)) rfl T.g_is_digit pass0 (pa_cons (pe_ix ix_list (pv 0) (pv 1) (fun _ _ => rfl)) pa_nil))))))
      (pss_one (ps_aug (i := 1) sc_digits_end.nd rfl (Or.inl rfl) pe_int ip_add)))
      (pss_one (ps_ret (pv 1))))), ?_⟩
  obtain ⟨_, _, rfl, row, k, ⟨a, rfl, hS⟩, rfl, hQ⟩ := h
  refine ⟨fun m σ H' => H' = H ∧ ∃ p : Nat, σ = [some (.ref a), some (.int (p : Int))] ∧ m = row.length - p ∧ Qu.runEnd Lrx9.isDigit row p = Qu.runEnd Lrx9.isDigit row k, ⟨_, rfl, k, rfl, rfl, rfl⟩, ?_⟩
  rintro m σ H' ⟨rfl, p, rfl, rfl, hp⟩
  refine ⟨_, rfl, _, rfl, _, _, rfl, .inl hS, _, _, rfl, rfl, _, rfl, ?_⟩
  rw [vN_len]
  refine ite2 (fun c => ?_) (fun c => ?_)
  · have c' : p < row.length := by have := of_decide_eq_true c; omega
    obtain ⟨b, hb⟩ : ∃ b, row[p]? = some b := ⟨_, List.getElem?_eq_getElem c'⟩
    refine ⟨_, rfl, _, rfl, _, _, _, _, rfl, rfl, hS, vN_at hb, _, rfl, b, rfl, _, rfl, ?_⟩
    cases l2 : Lrx9.isDigit b with
    | true =>
      refine iteT ⟨fun σ' H'' => ∃ m', m' < row.length - p ∧ (H'' = H' ∧ ∃ q : Nat, σ' = [some (.ref a), some (.int (q : Int))] ∧ m' = row.length - q ∧ Qu.runEnd Lrx9.isDigit row q = Qu.runEnd Lrx9.isDigit row k), fun _ _ z => z, _, rfl, _, _, rfl, rfl, _, ?_, rfl, p + 1, rfl, rfl, ?_⟩
      · omega
      · rw [← hp, Qu.runEnd_step hb l2]
    | false =>
      rw [← hp, Qu.runEnd_no hb l2] at hQ
      exact iteF ⟨_, rfl, hQ⟩
  · have c' : row.length ≤ p := by
      have : ¬ ((p : Int) < (row.length : Int)) := fun z => c (decide_eq_true z)
      omega
    rw [← hp, Qu.runEnd_out c'] at hQ
    exact iteF ⟨_, rfl, hQ⟩
end Q
set_option Elab.async false
set_option linter.all false
set_option maxRecDepth 100000
set_option maxHeartbeats 4000000
namespace Q
open PySem PySem.Spec PyProof.Rows L2
/-! ### comprehensions over lists, each element by itself -/
theorem paired_len {α β : Type} {F : α → β → Prop} : ∀ {l : List α} {m : List β}, Paired F l m → l.length = m.length
  | _, _, .nil => rfl
  | _, _, .cons _ t => congrArg (· + 1) (paired_len t)
theorem paired_snoc {α β : Type} {F : α → β → Prop} {x : α} {y : β} (h : F x y) : ∀ {l : List α} {m : List β}, Paired F l m → Paired F (l ++ [x]) (m ++ [y])
  | _, _, .nil => .cons h .nil
  | _, _, .cons r t => .cons r (paired_snoc h t)
theorem paired_imp {α β : Type} {F G : α → β → Prop} (k : ∀ a b, F a b → G a b) : ∀ {l : List α} {m : List β}, Paired F l m → Paired G l m
  | _, _, .nil => .nil
  | _, _, .cons r t => .cons (k _ _ r) (paired_imp k t)
theorem take_next {α : Type} : ∀ {l : List α} {i : Nat} {x : α}, l[i]? = some x → l.take (i + 1) = l.take i ++ [x]
  | [], i, x, h => by simp at h
  | a :: l, 0, x, h => by simp at h; subst h; simp
  | a :: l, i + 1, x, h => by
    rw [List.take_succ_cons, take_next (l := l) (i := i) (x := x) (by simpa using h), List.take_succ_cons]
    rfl
/-- all but one stand -/
def But (D : Addr) (H H' : Hp) : Prop := ∀ b o, b ≠ D → H b = some o → H' b = some o
theorem _root_.L2.Same.but {D : Addr} {H H' : Hp} (s : Same H H') : But D H H' := fun b o _ e => s b o e
theorem but_put {D : Addr} {H : Hp} {o : HO} : But D H (upd H D o) := fun b u n e => by rw [upd_ne n]; exact e
theorem lc_keep {K : PySem.W.Frag} {a : Addr} {xs : List V} {j : Nat} {tt : TT} {te : TE} {vs : List Nat} {σ : L2.St} {H1 : Hp} {D : Addr} {Qd : Hp → Prop} (p : V → Bool) (R : V → V → Hp → Prop) (up : ∀ x y H H', But D H H' → R x y H → R x y H')
    (hD : H1 D = none) (hS : SqL K H1 a xs) (hz : xs.length ≤ sizeLine) (hw : ∀ x, wipe ((wipe σ vs).set j (some x)) vs = wipe σ vs)
    (ht : ∀ x H' Q, x ∈ xs → Same H1 H' → (∀ H'', Same H' H'' → Q (p x) H'') → tt ((wipe σ vs).set j (some x)) H' Q)
    (he : ∀ x H' Q, x ∈ xs → p x = true → Same H1 H' → (∃ o, H' D = some o) → (∀ y H'', Same H' H'' → R x y H'' → Q y H'') → te ((wipe σ vs).set j (some x)) H' Q)
    (hd : ∀ ys H', Same H1 H' → H' D = some (.lst ys) → Paired (fun x y => R x y H') (xs.filter p) ys → Qd H') :
    ∃ W : Nat → Nat → Hp → Prop, (∃ m, W 0 m (upd H1 D (.lst []))) ∧ ∀ i m H, W i m H →
      ((Itl K a).stop i H ∧ Qd H) ∨ ((Itl K a).go i H ∧ ∃ Nx : Hp → Prop, (∀ H', Nx H' → ∃ m', m' < m ∧ W (i + 1) m' H') ∧ ∀ x H', (Itl K a).yld i H x H' → gName j x (wipe σ vs) H' fun σ2 H2 => wipe σ2 vs = wipe σ vs ∧ tt σ2 H2 fun b H3 =>
        if b = true then te σ2 H3 fun y H4 => ∃ acc, H4 D = some (.lst acc) ∧ acc.length < sizeLine ∧ Nx (upd H4 D (.lst (acc ++ [y]))) else Nx H3) := by
  refine lc_list (xs := xs) (fun i H' => Same H1 H' ∧ ∃ ys, H' D = some (.lst ys) ∧ Paired (fun x y => R x y H') ((xs.take i).filter p) ys) ⟨Same.new hD, [], upd_same, by simp; exact .nil⟩ (fun i H' _ w => w.1.seq hS) ?_ ?_
  · rintro i x H' hi ⟨s1, ys, e1, r1⟩
    have mem : x ∈ xs := List.mem_of_getElem? hi
    have il : i < xs.length := (List.getElem?_eq_some_iff.mp hi).1
    refine ⟨hw x, ht x H' _ mem s1 fun H2 s2 => ?_⟩
    have tk : (xs.take (i + 1)).filter p = (xs.take i).filter p ++ (if p x = true then [x] else []) := by
      rw [take_next hi, List.filter_append]
      cases hp : p x <;> simp [hp]
    have r2 : Paired (fun x y => R x y H2) ((xs.take i).filter p) ys := paired_imp (fun a b => up a b _ _ s2.but) r1
    refine ite2 (fun c => ?_) (fun c => ?_)
    · refine he x H2 _ mem c (s1.trans s2) ⟨_, s2 _ _ e1⟩ fun y H3 s3 ry => ?_
      have l1 : ys.length < sizeLine := by
        have := paired_len r1
        have h2 := List.length_filter_le p (xs.take i)
        rw [List.length_take] at h2
        omega
      refine ⟨ys, s3 _ _ (s2 _ _ e1), l1, ((s1.trans s2).trans s3).put hD, _, upd_same, ?_⟩
      rw [tk, if_pos c]
      have k5 : But D H2 (upd H3 D (.lst (ys ++ [y]))) := fun b' o n e => by
        rw [upd_ne n]
        exact s3 _ _ e
      exact paired_snoc (F := fun a b => R a b (upd H3 D (.lst (ys ++ [y])))) (up _ _ _ _ but_put ry) (paired_imp (fun a b => up a b _ _ k5) r2)
    · rw [tk, if_neg c, List.append_nil]
      exact ⟨s1.trans s2, ys, s2 _ _ e1, r2⟩
  · rintro H' ⟨s1, ys, e1, r1⟩
    rw [List.take_length] at r1
    exact hd ys H' s1 e1 r1
/-- no test, a plain value each -/
theorem lc_map {K : PySem.W.Frag} {a : Addr} {xs : List V} {j : Nat} {te : TE} {vs : List Nat} {σ : L2.St} {H1 : Hp} {D : Addr} {Qd : Hp → Prop} (f : V → V) (hD : H1 D = none) (hS : SqL K H1 a xs) (hz : xs.length ≤ sizeLine)
    (hw : ∀ x, wipe ((wipe σ vs).set j (some x)) vs = wipe σ vs) (he : ∀ x H' Q, x ∈ xs → Same H1 H' → (∀ H'', Same H' H'' → Q (f x) H'') → te ((wipe σ vs).set j (some x)) H' Q)
    (hd : ∀ H', Same H1 H' → H' D = some (.lst (xs.map f)) → Qd H') :
    ∃ W : Nat → Nat → Hp → Prop, (∃ m, W 0 m (upd H1 D (.lst []))) ∧ ∀ i m H, W i m H →
      ((Itl K a).stop i H ∧ Qd H) ∨ ((Itl K a).go i H ∧ ∃ Nx : Hp → Prop, (∀ H', Nx H' → ∃ m', m' < m ∧ W (i + 1) m' H') ∧ ∀ x H', (Itl K a).yld i H x H' → gName j x (wipe σ vs) H' fun σ2 H2 => wipe σ2 vs = wipe σ vs ∧ tYes σ2 H2 fun b H3 =>
        if b = true then te σ2 H3 fun y H4 => ∃ acc, H4 D = some (.lst acc) ∧ acc.length < sizeLine ∧ Nx (upd H4 D (.lst (acc ++ [y]))) else Nx H3) := by
  refine lc_keep (fun _ => true) (fun x y _ => y = f x) (fun _ _ _ _ _ h => h) hD hS hz hw (fun x H' Q _ _ q => q H' (Same.refl H')) (fun x H' Q m _ s _ q => he x H' _ m s fun H'' s'' => q _ H'' s'' rfl) (fun ys H' s e r => hd H' s ?_)
  have e2 : ys = xs.map f := by
    have : ∀ {l m : List V}, Paired (fun x y => y = f x) l m → m = l.map f := by
      intro l m h
      induction h with
      | nil => rfl
      | cons a _ ih => rw [a, ih]; rfl
    rw [List.filter_eq_self.mpr (fun _ _ => rfl)] at r
    exact this r
  rw [← e2]
  exact e
/-- a statement, then the rest, a word between them -/
def tMid (t u : TS) : TS := fun D σ H => ∃ M : L2.St → Hp → Prop, t { D with nx := M } σ H ∧ ∀ σ' H', M σ' H' → u D σ' H'
theorem pss_mid {X : Cx} {st : Stmt} {rest : List Stmt} {t u : TS} (h1 : PS X st t) (h2 : PSs X rest u) : PSs X (st :: rest) (tMid t u) := by
  refine ⟨fun pins s σ H D I ⟨M, a, b⟩ => ?_⟩
  refine wpAny_execs_cons (thn (h1.run pins s σ H { D with nx := M } I a) fun f s1 q => ?_)
  cases f with
  | next =>
    obtain ⟨σ1, H1, I1, q⟩ := q
    exact h2.run pins s1 σ1 H1 D I1 (b σ1 H1 q)
  | brk => exact q
  | cont => exact q
  | ret v => exact q
end Q
set_option Elab.async false
set_option linter.all false
set_option maxRecDepth 100000
set_option maxHeartbeats 4000000
namespace Q
open PySem PySem.Spec PyProof.Rows L2
def sT (l : List Nat) : Str := ⟨l.toArray⟩
theorem sT_len (l : List Nat) : (sT l).length = l.length := by
  show l.toArray.size = _
  simp
theorem sT_inj {a b : List Nat} (h : sT a = sT b) : a = b := by
  have h2 : a.toArray = b.toArray := congrArg Str.cps h
  simpa using congrArg Array.toList h2
theorem letters_at : ∀ k : Fin 26, (Str.ofString "abcdefghijklmnopqrstuvwxyz").cps.toList[k.val]? = some (97 + k.val) := by decide +kernel
theorem digit_str : ∀ k : Fin 10, Str.ofString (toString ((k.val : Nat) : Int)) = ⟨#[48 + k.val]⟩ := by decide +kernel
theorem low_str : ("_" : Str) = ⟨#[95]⟩ := by decide +kernel
def sp_sign_of : Sp := sp1 fun a H Q _ => ∃ n : Nat, a = .int (n : Int) ∧ Lrx9.isNameByte n = true ∧ Q (.str (sT [n])) H
theorem ok_sign_of {w : World} {K : PySem.W.Frag} {mg : Str → Option Value} {base : Heap} (T : Txt w K mg) : OKF w K mg base (CX0) 2 d_sign_of ["byte"] (sp_sign_of) := by
  refine okf_mk (k := 1) T 30 rfl sc_sign_of rfl rfl (fun _ _ _ _ _ _ us hl => match us, hl with | [_], _ => rfl) sp1_len (fun f cdv A outer s H vs Q E hr h => ?_)
  refine ⟨_, (PSs.nox (pss_cons (ps_if (pt_val (pe_ok (ok_is_letter T) (hr.mono (by decide)) rfl T.g_is_letter pass0 (pa_cons (pv 0) pa_nil))) (pss_one (ps_ret (pe_ix ix_str (pe_gstr rfl (T.str_LETTERS)) (pe_op op_sub (pv 0) pe_int) (fun _ _ => rfl))))
      pss_nil)
      (pss_one (ps_ret (pe_ifExp (pt_val (pe_ok (ok_is_digit T) (hr.mono (by decide)) rfl T.g_is_digit pass0 (pa_cons (pv 0) pa_nil))) (pe_callTy call_str_int rfl T.f_str (by decide +kernel) (pa_cons (pe_op op_sub (pv 0) pe_int) pa_nil)) pe_str))))), ?_⟩
  obtain ⟨_, rfl, n, rfl, hn, hQ⟩ := h
  refine ⟨_, rfl, _, rfl, n, rfl, _, rfl, ?_⟩
  cases l1 : Lrx9.isLetter n with
  | true =>
    have hl : 97 ≤ n ∧ n ≤ 122 := of_decide_eq_true l1
    have e := letters_at ⟨n - 97, by omega⟩
    have e2 : atI (Str.ofString "abcdefghijklmnopqrstuvwxyz").cps.toList ((n : Int) - 97) = some n := by
      have h2 : ((n : Int) - 97) = ((n - 97 : Nat) : Int) := by omega
      rw [h2]
      refine atI_nat ?_
      rw [e]
      simp
      omega
    exact iteT ⟨_, rfl, _, _, rfl, rfl, _, _, _, rfl, rfl, by decide +kernel, e2, hQ⟩
  | false =>
    refine iteF ⟨_, rfl, _, rfl, n, rfl, _, rfl, ?_⟩
    cases l2 : Lrx9.isDigit n with
    | true =>
      have hl : 48 ≤ n ∧ n ≤ 57 := of_decide_eq_true l2
      have e := digit_str ⟨n - 48, by omega⟩
      have h2 : ((n : Int) - 48) = ((n - 48 : Nat) : Int) := by omega
      have h3 : 48 + (n - 48) = n := by omega
      refine iteT ⟨_, rfl, _, _, rfl, rfl, (n : Int) - 48, rfl, ?_, ?_⟩
      · have : ((n : Int) - 48).natAbs < 10 := by omega
        exact Nat.lt_of_le_of_lt (Nat.log2_le_self _) (by omega)
      · rw [h2]
        simp only at e
        rw [h3] at e
        show Q (.str (Str.ofString (toString ((n - 48 : Nat) : Int)))) H
        rw [e]
        exact hQ
    | false =>
      have h95 : n = 95 := by
        unfold Lrx9.isNameByte at hn
        rw [l1, l2] at hn
        simpa using hn
      subst h95
      refine iteF ?_
      show Q (.str "_") H
      rw [low_str]
      exact hQ
def sp_number_of_tokens (K : PySem.W.Frag) : Sp := sp1 fun a H Q _ => ∃ row, RowV K H a row ∧ (∀ b ∈ row, Lrx9.isDigit b = true) ∧ row.length ≤ 15 ∧ Q (.int (Lrx9.digitsValue row : Nat)) H
theorem digits_snoc (l : List Nat) (b : Nat) : Lrx9.digitsValue (l ++ [b]) = Lrx9.digitsValue l * 10 + (b - 48) := by
  unfold Lrx9.digitsValue
  rw [List.foldl_append]
  rfl
theorem ok_number_of_tokens {w : World} {K : PySem.W.Frag} {mg : Str → Option Value} {base : Heap} (T : Txt w K mg) : OKF w K mg base (CX0) 1 d_number_of_tokens ["row"] (sp_number_of_tokens K) := by
  refine okf_mk (k := 0) T 31 rfl sc_number_of_tokens rfl rfl (fun _ _ _ _ _ _ us hl => match us, hl with | [_], _ => rfl) sp1_len (fun f cdv A outer s H vs Q E hr h => ?_)
  refine ⟨_, (PSs.nox (pss_cons (ps_set (i := 1) sc_number_of_tokens.nd rfl (Or.inl rfl) pe_int)
      (pss_cons (ps_for PassesOwn.never rfl (pi_list (pv 0)) (pg_name (i := 2) sc_number_of_tokens.nd rfl (Or.inl rfl))
      (pss_one (ps_set (i := 1) sc_number_of_tokens.nd rfl (Or.inl rfl) (pe_op op_sub (pe_op op_add (pe_op op_mulW pe_int (pv 1)) (pv 2)) pe_int))))
      (pss_one (ps_ret (pv 1)))))), ?_⟩
  obtain ⟨_, rfl, row, ⟨a, rfl, hS⟩, hd, hl, hQ⟩ := h
  refine ⟨_, rfl, a, rfl, ⟨_, hS⟩, for_list (K := K) (a := a) (xs := vN row) (fun i σ H' => H' = H ∧ ∃ v, σ = [some (.ref a), some (.int (Lrx9.digitsValue (row.take i) : Nat)), v]) ⟨rfl, none, rfl⟩ (fun i σ H' _ w => by rw [w.1]; exact hS) ?_ ?_⟩
  · rintro i x σ H' hi ⟨rfl, v, rfl⟩
    obtain ⟨b, hb, rfl⟩ : ∃ b, row[i]? = some b ∧ x = V.int (b : Int) := by
      unfold vN at hi
      rw [List.getElem?_map] at hi
      obtain ⟨b, hb, e⟩ := Option.map_eq_some_iff.mp hi
      exact ⟨b, hb, e.symm⟩
    have hb' : 48 ≤ b ∧ b ≤ 57 := of_decide_eq_true (hd b (List.mem_of_getElem? hb))
    have small := Qu.digits_le (row.take i) (fun x hx => hd x (List.mem_of_mem_take hx)) 0
    rw [Nat.zero_add, Nat.one_mul] at small
    have cm : CMulW 10 (Lrx9.digitsValue (row.take i) : Nat) := by
      refine cmul (a := 4) (b := 50) (by decide) ?_ (by decide)
      rw [Int.natAbs_natCast]
      refine Nat.lt_of_lt_of_le small (Nat.le_trans (Nat.pow_le_pow_right (by decide) (show _ ≤ 15 from ?_)) (by decide))
      rw [List.length_take]; omega
    refine ⟨_, rfl, _, _, rfl, rfl, cm, _, rfl, _, _, rfl, rfl, _, _, rfl, rfl, rfl, some (V.int (b : Int)), ?_⟩
    rw [take_next hb, digits_snoc]
    have e : (10 * ((Lrx9.digitsValue (row.take i) : Nat) : Int) + (b : Int) - 48) = ((Lrx9.digitsValue (row.take i) * 10 + (b - 48) : Nat) : Int) := by
      push_cast [Int.ofNat_sub hb'.1]
      omega
    rw [← e]
    rfl
  · rintro σ H' ⟨rfl, v, rfl⟩
    rw [vN_len, List.take_length]
    exact ⟨_, rfl, hQ⟩
def sp_power_of_ten (K : PySem.W.Frag) : Sp := sp1 fun a H Q _ => ∃ n : Nat, a = .int (n : Int) ∧ n ≤ 6 ∧ Q (.int (10 ^ n : Nat)) H
theorem ok_power_of_ten {w : World} {K : PySem.W.Frag} {mg : Str → Option Value} {base : Heap} (T : Txt w K mg) : OKF w K mg base (CX0) 1 d_power_of_ten ["many"] (sp_power_of_ten K) := by
  refine okf_mk (k := 0) T 32 rfl sc_power_of_ten rfl rfl (fun _ _ _ _ _ _ us hl => match us, hl with | [_], _ => rfl) sp1_len (fun f cdv A outer s H vs Q E hr h => ?_)
  refine ⟨_, (PSs.nox (pss_cons (ps_set (i := 1) sc_power_of_ten.nd rfl (Or.inl rfl) pe_int)
      (pss_cons (ps_for PassesOwn.never rfl (pi_range1 rfl T.f_range (pa_cons (pv 0) pa_nil)) (pg_name (i := 2) sc_power_of_ten.nd rfl (Or.inl rfl))
      (pss_one (ps_set (i := 1) sc_power_of_ten.nd rfl (Or.inl rfl) (pe_op op_mulW pe_int (pv 1)))))
      (pss_one (ps_ret (pv 1)))))), ?_⟩
  obtain ⟨_, rfl, n, rfl, hn, hQ⟩ := h
  refine ⟨_, rfl, n, rfl, by omega, by omega, for_range (n := (n : Int).toNat) (fun i σ H' => H' = H ∧ ∃ v, σ = [some (.int (n : Int)), some (.int (10 ^ i : Nat)), v]) ⟨rfl, none, rfl⟩ ?_ ?_⟩
  · rintro i σ H' hi ⟨rfl, v, rfl⟩
    have hi' : i < n := by omega
    have cm : CMulW 10 ((10 ^ i : Nat) : Int) := by
      refine cmul (a := 4) (b := 24) (by decide) ?_ (by decide)
      rw [Int.natAbs_natCast]
      exact Nat.lt_of_le_of_lt (Nat.pow_le_pow_right (by decide) (show i ≤ 6 by omega)) (by decide)
    refine ⟨_, rfl, _, _, rfl, rfl, cm, rfl, some (V.int (0 + (i : Int))), ?_⟩
    have e : (10 * ((10 ^ i : Nat) : Int)) = ((10 ^ (i + 1) : Nat) : Int) := by
      rw [Nat.pow_succ, Int.natCast_mul, Int.mul_comm]
      rfl
    rw [← e]
    rfl
  · rintro σ H' ⟨rfl, v, rfl⟩
    have e : (n : Int).toNat = n := by omega
    rw [e]
    exact ⟨_, rfl, hQ⟩
theorem cut_vN {row : List Nat} {k e : Nat} (h1 : k ≤ row.length) (h2 : e ≤ row.length) : cutV (vN row) (some (k : Int)) (some (e : Int)) = vN ((row.drop k).take (e - k)) := by
  unfold cutV
  rw [vN_len, HT.sIx_nat, HT.sIx_nat, Nat.min_eq_left h1, Nat.min_eq_left h2]
  unfold vN
  rw [List.map_take, List.map_drop]
/-- a token as it lies -/
def TokV (K : PySem.W.Frag) (H : Hp) (v : V) (t : Lrx9.Token) : Prop := ∃ a x, v = .ref a ∧ SqT K H a [.int (t.kind : Int), .int (t.column : Int), x] ∧ (t.kind = 1 → FrV K H x t.value) ∧ (t.kind ≠ 1 → x = .str (sT t.text))
theorem TokV.same {K : PySem.W.Frag} {H H' : Hp} {v : V} {t : Lrx9.Token} (e : Same H H') (h : TokV K H v t) : TokV K H' v t := by
  obtain ⟨a, x, rfl, h1, h2, h3⟩ := h
  exact ⟨a, x, rfl, e.seqT h1, fun z => (h2 z).same e, h3⟩
/-- token, end: what the four hand back -/
def GivesTok (K : PySem.W.Frag) (H : Hp) (Q : VK) (E : XK) (k : Nat) : Except Lrx9.Fault (Lrx9.Token × Nat) → Prop
  | .error f => LineS K H E f
  | .ok (t, n) => ∀ v H', Same H H' → (∃ a x, v = .ref a ∧ SqT K H' a [x, .int ((k + n : Nat) : Int)] ∧ TokV K H' x t) → Q v H'
def spTok (K : PySem.W.Frag) (P : Nat → Prop) : Sp := sp2 fun a b H Q E => ∃ row k n, RowV K H a row ∧ b = .int ((k : Nat) : Int) ∧ row[k]? = some n ∧ row.length ≤ 80 ∧ P n ∧ GivesTok K H Q E k (Lrx9.readToken (row.drop k) k)
def sp_name_at (K : PySem.W.Frag) : Sp := spTok K fun n => Lrx9.isLetter n = true
def sp_number_at (K : PySem.W.Frag) : Sp := spTok K fun n => Lrx9.isLetter n = false ∧ Lrx9.isDigit n = true
def sp_symbol_at (K : PySem.W.Frag) : Sp := spTok K fun n => Lrx9.isLetter n = false ∧ Lrx9.isDigit n = false
def sp_token_at (K : PySem.W.Frag) : Sp := spTok K fun _ => True
theorem str_join_one (l : List Nat) : Txt.join (Str.ofString "") ((l.map fun b => sT [b])) = sT l := by
  rw [TL.join_eq]
  have app : ∀ a b : List Nat, sT a ++ sT b = sT (a ++ b) := fun a b => by
    show (⟨a.toArray ++ b.toArray⟩ : Str) = ⟨(a ++ b).toArray⟩
    simp
  have emp : Str.ofString "" = sT [] := by decide +kernel
  rw [emp]
  induction l with
  | nil => rfl
  | cons b r ih =>
    cases r with
    | nil => rfl
    | cons c r =>
      show sT [b] ++ sT [] ++ Str.join (sT []) ((c :: r).map fun b => sT [b]) = _
      rw [ih, app, app]
      rfl
theorem sum_ones (l : List Nat) : ((l.map fun b => sT [b]).map (·.length)).sum = l.length := by
  induction l with
  | nil => rfl
  | cons b r ih =>
    rw [List.map_cons, List.map_cons, List.sum_cons, ih, sT_len, List.length_cons, List.length_cons]
    show 0 + 1 + r.length = _
    omega
theorem ok_name_at {w : World} {K : PySem.W.Frag} {mg : Str → Option Value} {base : Heap} (T : Txt w K mg) : OKF w K mg base (L2N.CX prog w) 4 d_name_at ["row", "place"] (sp_name_at K) := by
  refine okf_mk (k := 3) T 34 rfl sc_name_at rfl rfl (fun _ _ _ _ _ _ us hl => match us, hl with | [_, _], _ => rfl) sp2_len (fun f cdv A outer s H vs Q E hr h => ?_)
  refine ⟨_, (pss_cons (ps_set (i := 2) sc_name_at.nd rfl (Or.inl rfl) (pe_ok (ok_name_end T) (hr.mono (by decide)) rfl T.g_name_end pass0 (pa_cons (pv 0) (pa_cons (pv 1) pa_nil))))
      (pss_cons (ps_expr (pe_ok (ok_need T) (hr.mono (by decide)) rfl T.g_need (L2N.passes_call (L2N.takes_of rfl rfl rfl rfl) fun _ _ _ _ h => h) (pa_cons (pe_cmpR op_le (pe_op op_sub (pv 2) (pv 1)) (pe_gint rfl (T.int_MOST_LETTERS)) (nomark _)) (pa_cons (pv 1) (pa_cons (pe_gint rfl (T.int_TOO_LONG)) pa_nil)))))
      (pss_one (ps_ret (pe_tup (pa_cons (pe_tup (pa_cons (pe_gint rfl (T.int_NAME)) (pa_cons (pv 1) (pa_cons (pe_join pe_str (pe_lc (own := [("byte", 3)]) (g := gName 3) (tt := tYes) rfl sc_name_at.nd (pi_list (pe_slice sl_list (pv 0) (po_some (pv 1)) (po_some (pv 2)))) (blkOk_by (N := N_name_at) (sc := defScope s_name_at) (by decide +kernel)) (fun _ _ _ _ _ => (pg_name (i := 3) sc_name_at.nd rfl (Or.inl rfl))) (fun _ _ _ _ _ => pts_nil) (fun _ _ _ _ _ => (pe_ok (ok_sign_of T) (hr.mono (by decide)) rfl T.g_sign_of pass0 (pa_cons (pv 3) pa_nil))))) pa_nil)))) (pa_cons (pv 2) pa_nil))))))), ?_⟩
  obtain ⟨_, _, rfl, row, k, n, hR, rfl, hk, hz, hn, hG⟩ := h
  have hkl := (List.getElem?_eq_some_iff.mp hk).1
  rw [Qu.read_letter (Qu.drop_of hk) hn] at hG
  refine ⟨_, rfl, _, rfl, _, _, rfl, row, k, hR, rfl, ?_⟩
  have el := Qu.runEnd_le (P := Lrx9.isNameByte) (row := row) (k := k) (by omega)
  have ee : Qu.runEnd Lrx9.isNameByte row k = k + ((row.drop k).takeWhile Lrx9.isNameByte).length := rfl
  have ld : ((row.drop k).takeWhile Lrx9.isNameByte).length ≤ 80 := by omega
  have tk := Qu.take_run (P := Lrx9.isNameByte) (row.drop k)
  have al := Qu.run_all (P := Lrx9.isNameByte) (row.drop k)
  revert ee
  generalize hrun : (row.drop k).takeWhile Lrx9.isNameByte = run at *
  intro ee
  refine ⟨_, rfl, _, rfl, _, _, rfl, rfl, _, _, rfl, rfl, _, rfl, _, _, _, rfl, decide (((Qu.runEnd Lrx9.isNameByte row k : Nat) : Int) - (k : Int) ≤ 12), ⟨k, 2⟩, rfl, rfl, rfl, fun c => ?_, fun c => ?_⟩
  · have c' : run.length ≤ 12 := by
      have := of_decide_eq_true c
      omega
    rw [if_neg (by omega)] at hG
    obtain ⟨a, rfl, hS⟩ := hR
    refine ⟨_, rfl, ⟨_, rfl⟩, _, rfl, _, rfl, _, rfl, _, rfl, _, rfl, a, _, rfl, hS, fun p hp => ⟨p, rfl, ⟨_, SqL.of upd_same⟩, fun D hD => ?_⟩⟩
    have ce : cutV (vN row) (some (k : Int)) (some ((Qu.runEnd Lrx9.isNameByte row k : Nat) : Int)) = vN run := by rw [cut_vN (by omega) el, ee, Nat.add_sub_cancel_left, tk]
    refine lc_map (xs := vN run) (fun x => match x with | .int i => .str (sT [i.toNat]) | v => v) hD (SqL.of (by rw [upd_same, ce])) (by rw [vN_len]; exact Nat.le_trans ld (by decide)) (fun _ => rfl) ?_ ?_
    · intro x H' Q' hx s1 q
      obtain ⟨b, hb, rfl⟩ : ∃ b ∈ run, V.int (b : Int) = x := List.mem_map.mp hx
      exact ⟨_, rfl, _, rfl, b, rfl, al b hb, q H' (Same.refl H')⟩
    · intro H' s1 eD
      have e2 : (vN run).map (fun x => match x with | .int i => V.str (sT [i.toNat]) | v => v) = (run.map fun b => sT [b]).map V.str := by
        unfold vN
        rw [List.map_map, List.map_map]
        rfl
      rw [e2] at eD
      refine ⟨_, D, _, rfl, rfl, .inl (SqL.of eD), ?_, ?_⟩
      · rw [sum_ones, List.length_map]
        show run.length + run.length * 0 ≤ _
        omega
      rw [str_join_one]
      refine ⟨by show 3 ≤ sizeLine; decide, fun p1 h1 => ⟨_, rfl, by show 2 ≤ sizeLine; decide, fun p2 h2 => ?_⟩⟩
      have s0 : Same H H' := (Same.new hp).trans s1
      refine hG _ _ ((s0.to h1).to h2) ⟨p2, _, rfl, SqT.of (by rw [upd_same, ee]), p1, _, rfl, SqT.of ?_, fun z => absurd z (by simp), fun _ => rfl⟩
      rw [upd_ne (by rintro rfl; rw [upd_same] at h2; cases h2), upd_same]
      rfl
  · have c' : 12 < run.length := by
      have := of_decide_eq_false c
      omega
    rw [if_pos (by omega)] at hG
    exact hG
theorem symbols_at : ∀ k : Fin 22, (Str.ofString "()*+,-./0123456789:;<=").cps.toList[k.val]? = some (40 + k.val) := by decide +kernel
theorem symbols_in : ∀ k : Fin 22, decide (40 + k.val ∈ (Str.ofString "()*+-/=").cps.toList) = (Lrx9.isSymbol (40 + k.val)) := by decide +kernel
theorem symbol_low {n : Nat} (h : Lrx9.isSymbol n = true) : 40 ≤ n ∧ n ≤ 61 := by
  unfold Lrx9.isSymbol at h
  simp only [List.contains_cons, List.contains_nil, Bool.or_false, Bool.or_eq_true, beq_iff_eq] at h
  omega
theorem ok_symbol_at {w : World} {K : PySem.W.Frag} {mg : Str → Option Value} {base : Heap} (T : Txt w K mg) : OKF w K mg base (L2N.CX prog w) 4 d_symbol_at ["row", "place"] (sp_symbol_at K) := by
  refine okf_mk (k := 3) T 35 rfl sc_symbol_at rfl rfl (fun _ _ _ _ _ _ us hl => match us, hl with | [_, _], _ => rfl) sp2_len (fun f cdv A outer s H vs Q E hr h => ?_)
  refine ⟨_, (pss_cons (ps_set (i := 2) sc_symbol_at.nd rfl (Or.inl rfl) (pe_ix ix_list (pv 0) (pv 1) (fun _ _ => rfl)))
      (pss_cons (ps_expr (pe_ok (ok_need T) (hr.mono (by decide)) rfl T.g_need (L2N.passes_call (L2N.takes_of rfl rfl rfl rfl) fun _ _ _ _ h => h) (pa_cons (pe_and (pe_cmpR op_le pe_int (pv 2) (nomark _)) (pe_and (pe_cmpR op_le (pv 2) pe_int (nomark _)) (pe_one (pe_cmpR (op_in_sign) (pe_ix ix_str (pe_gstr rfl (T.str_SIGNS)) (pe_op op_sub (pv 2) pe_int) (fun _ _ => rfl)) (pe_gstr rfl (T.str_SYMBOLS)) (by rfl))))) (pa_cons (pv 1) (pa_cons (pe_gint rfl (T.int_NO_TOKEN)) pa_nil)))))
      (pss_one (ps_ret (pe_tup (pa_cons (pe_tup (pa_cons (pe_gint rfl (T.int_SYMBOL)) (pa_cons (pv 1) (pa_cons (pe_ix ix_str (pe_gstr rfl (T.str_SIGNS)) (pe_op op_sub (pv 2) pe_int) (fun _ _ => rfl)) pa_nil)))) (pa_cons (pe_op op_add (pv 1) pe_int) pa_nil))))))), ?_⟩
  obtain ⟨_, _, rfl, row, k, n, ⟨a, rfl, hS⟩, rfl, hk, hz, hn, hG⟩ := h
  rw [Qu.drop_of hk, Qu.read_symbol hn.1 hn.2] at hG
  refine ⟨_, rfl, _, rfl, _, _, _, _, rfl, rfl, hS, vN_at hk, ?_⟩
  have sig : 40 ≤ n ∧ n ≤ 61 → atI (Str.ofString "()*+,-./0123456789:;<=").cps.toList ((n : Int) - 40) = some n := fun hr => by
    have h2 : ((n : Int) - 40) = ((n - 40 : Nat) : Int) := by omega
    rw [h2]
    refine atI_nat ?_
    rw [symbols_at ⟨n - 40, by omega⟩]
    simp
    omega
  refine ⟨_, rfl, _, _, rfl, rfl, _, rfl, ?_⟩
  cases c1 : decide ((40 : Int) ≤ (n : Int)) with
  | false =>
    refine iteF ⟨_, rfl, _, _, _, rfl, false, ⟨k, 1⟩, rfl, rfl, rfl, fun z => Bool.noConfusion z, fun _ => ?_⟩
    have := of_decide_eq_false c1
    rw [if_neg (fun z => by have := (symbol_low z).1; omega)] at hG
    exact hG
  | true =>
    refine iteT ⟨_, rfl, _, _, rfl, rfl, _, rfl, ?_⟩
    cases c2 : decide ((n : Int) ≤ 61) with
    | false =>
      refine iteF ⟨_, rfl, _, _, _, rfl, false, ⟨k, 1⟩, rfl, rfl, rfl, fun z => Bool.noConfusion z, fun _ => ?_⟩
      have := of_decide_eq_false c2
      rw [if_neg (fun z => by have := (symbol_low z).2; omega)] at hG
      exact hG
    | true =>
      have r1 := of_decide_eq_true c1
      have r2 := of_decide_eq_true c2
      have hr' : 40 ≤ n ∧ n ≤ 61 := by omega
      have si := symbols_in ⟨n - 40, by omega⟩
      have h3 : 40 + (n - 40) = n := by omega
      simp only [h3] at si
      refine iteT ⟨_, rfl, _, _, rfl, rfl, _, _, _, rfl, rfl, by decide +kernel, sig hr', _, _, rfl, rfl, _, rfl, _, _, _, rfl, Lrx9.isSymbol n, ⟨k, 1⟩, by rw [si], rfl, rfl, fun z => ?_, fun z => ?_⟩
      · rw [if_pos z] at hG
        refine ⟨_, rfl, _, rfl, _, _, rfl, rfl, _, _, _, rfl, rfl, by decide +kernel, sig hr', by show 3 ≤ sizeLine; decide, fun p1 h1 => ⟨_, rfl, _, _, rfl, rfl, by show 2 ≤ sizeLine; decide, fun p2 h2 => ?_⟩⟩
        refine hG _ _ ((Same.new h1).to h2) ⟨p2, _, rfl, SqT.of upd_same, p1, _, rfl, SqT.of ?_, fun z => absurd z (by simp), fun _ => rfl⟩
        rw [upd_ne (by rintro rfl; rw [upd_same] at h2; cases h2), upd_same]
        rfl
      · rw [if_neg (by rw [z]; exact Bool.false_ne_true)] at hG
        exact hG
theorem cut_tail {row : List Nat} {e : Nat} : cutV (vN row) (some ((e : Int) + 1)) (some (e : Int)) = vN [] := by
  have h : ((e : Int) + 1) = ((e + 1 : Nat) : Int) := rfl
  rw [h]
  unfold cutV
  rw [vN_len, HT.sIx_nat, HT.sIx_nat]
  have : min e row.length - min (e + 1) row.length = 0 := by omega
  rw [this, List.take_zero]
  rfl
theorem ok_number_at {w : World} {K : PySem.W.Frag} {mg : Str → Option Value} {base : Heap} (T : Txt w K mg) : OKF w K mg base (L2N.CX prog w) 4 d_number_at ["row", "place"] (sp_number_at K) := by
  refine okf_mk (k := 3) T 33 rfl sc_number_at rfl rfl (fun _ _ _ _ _ _ us hl => match us, hl with | [_, _], _ => rfl) sp2_len (fun f cdv A outer s H vs Q E hr h => ?_)
  refine ⟨_, (pss_cons (ps_set (i := 2) sc_number_at.nd rfl (Or.inl rfl) (pe_ok (ok_digits_end T) (hr.mono (by decide)) rfl T.g_digits_end pass0 (pa_cons (pv 0) (pa_cons (pv 1) pa_nil))))
      (pss_cons (ps_set (i := 3) sc_number_at.nd rfl (Or.inl rfl) (pv 2))
      (pss_mid (ps_if (PW.pt (pw_and (pt_cmpR op_lt (pe_op op_add (pv 2) pe_int) (pe_callB call_len_seq rfl T.f_len boot_len (pa_cons (pv 0) pa_nil)) (nomark _)) (pw_and (pt_cmpR op_eq (pe_ix ix_list (pv 0) (pv 2) (fun _ _ => rfl)) (pe_gint rfl (T.int_POINT)) (nomark _)) (pw_and1 (pt_val (pe_ok (ok_is_digit T) (hr.mono (by decide)) rfl T.g_is_digit pass0 (pa_cons (pe_ix ix_list (pv 0) (pe_op op_add (pv 2) pe_int) (fun _ _ => rfl)) pa_nil))))))) (pss_one (ps_set (i := 3) sc_number_at.nd rfl (Or.inl rfl) (pe_ok (ok_digits_end T) (hr.mono (by decide)) rfl T.g_digits_end pass0 (pa_cons (pv 0) (pa_cons (pe_op op_add (pv 2) pe_int) pa_nil)))))
      pss_nil)
      (pss_cons (ps_par (i := 4) (j := 5) rfl sc_number_at.nd rfl rfl (by decide) rfl rfl (pa_cons (pe_slice sl_list (pv 0) (po_some (pv 1)) (po_some (pv 2))) (pa_cons (pe_slice sl_list (pv 0) (po_some (pe_op op_add (pv 2) pe_int)) (po_some (pv 3))) pa_nil)) (by rfl))
      (pss_cons (ps_expr (pe_ok (ok_need T) (hr.mono (by decide)) rfl T.g_need (L2N.passes_call (L2N.takes_of rfl rfl rfl rfl) fun _ _ _ _ h => h) (pa_cons (pe_and (pe_cmpR op_le (pe_callB call_len_seq rfl T.f_len boot_len (pa_cons (pv 4) pa_nil)) (pe_gint rfl (T.int_MOST_BEFORE)) (nomark _)) (pe_one (pe_cmpR op_le (pe_callB call_len_seq rfl T.f_len boot_len (pa_cons (pv 5) pa_nil)) (pe_gint rfl (T.int_MOST_BEHIND)) (nomark _)))) (pa_cons (pv 1) (pa_cons (pe_gint rfl (T.int_TOO_LONG)) pa_nil)))))
      (pss_one (ps_ret (pe_tup (pa_cons (pe_tup (pa_cons (pe_gint rfl (T.int_NUMBER)) (pa_cons (pv 1) (pa_cons (pe_ok (ok_reduced T) (hr.mono (by decide)) rfl T.g_reduced pass0 (pa_cons (pe_ok (ok_number_of_tokens T) (hr.mono (by decide)) rfl T.g_number_of_tokens pass0 (pa_cons (pe_op op_cat (pv 4) (pv 5)) pa_nil)) (pa_cons (pe_ok (ok_power_of_ten T) (hr.mono (by decide)) rfl T.g_power_of_ten pass0 (pa_cons (pe_callB call_len_seq rfl T.f_len boot_len (pa_cons (pv 5) pa_nil)) pa_nil)) pa_nil))) pa_nil)))) (pa_cons (pv 3) pa_nil)))))))))), ?_⟩
  obtain ⟨_, _, rfl, row, k, n, hR, rfl, hk, hz, hn, hG⟩ := h
  have hkl := (List.getElem?_eq_some_iff.mp hk).1
  rw [Qu.read_digit (Qu.drop_of hk) hn.1 hn.2] at hG
  obtain ⟨a, rfl, hS⟩ := id hR
  have el := Qu.runEnd_le (P := Lrx9.isDigit) (row := row) (k := k) (by omega)
  have ee : Qu.runEnd Lrx9.isDigit row k = k + ((row.drop k).takeWhile Lrx9.isDigit).length := rfl
  have tk := Qu.take_run (P := Lrx9.isDigit) (row.drop k)
  have al := Qu.run_all (P := Lrx9.isDigit) (row.drop k)
  rw [List.drop_drop] at hG
  revert ee
  generalize hrun : (row.drop k).takeWhile Lrx9.isDigit = run at *
  intro ee
  rw [← ee] at hG
  have hb : cutV (vN row) (some (k : Int)) (some ((Qu.runEnd Lrx9.isDigit row k : Nat) : Int)) = vN run := by rw [cut_vN (by omega) el, ee, Nat.add_sub_cancel_left, tk]
  have hrl : run.length ≤ 80 := by omega
  refine ⟨_, rfl, _, rfl, _, _, rfl, row, k, hR, rfl, _, rfl, ?_⟩
  generalize Qu.runEnd Lrx9.isDigit row k = e at *
  -- behind
  refine ⟨fun σ H' => H' = H ∧ ∃ b : Nat, σ = [some (.ref a), some (.int (k : Int)), some (.int (e : Int)), some (.int (b : Int)), none, none] ∧ b = e + (if Qu.placesOf (row.drop e) = [] then 0 else (Qu.placesOf (row.drop e)).length + 1) ∧ cutV (vN row) (some ((e : Int) + 1)) (some (b : Int)) = vN (Qu.placesOf (row.drop e)), ?_, ?_⟩
  · have no : Qu.placesOf (row.drop e) = [] → (H = H ∧ ∃ b : Nat, [some (V.ref a), some (.int (k : Int)), some (.int (e : Int)), some (.int (e : Int)), none, none] = [some (V.ref a), some (.int (k : Int)), some (.int (e : Int)), some (.int (b : Int)), none, none] ∧ b = e + (if Qu.placesOf (row.drop e) = [] then 0 else (Qu.placesOf (row.drop e)).length + 1) ∧ cutV (vN row) (some ((e : Int) + 1)) (some (b : Int)) = vN (Qu.placesOf (row.drop e))) := fun h => by
      rw [h, if_pos rfl]
      exact ⟨rfl, e, rfl, rfl, cut_tail⟩
    refine ⟨_, rfl, _, _, rfl, rfl, _, rfl, _, _, rfl, .inl hS, _, _, rfl, rfl, _, rfl, ?_⟩
    rw [vN_len]
    refine ite2 (fun c => ?_) (fun c => ?_)
    · have c' : e + 1 < row.length := by have := of_decide_eq_true c; omega
      obtain ⟨x, hx⟩ : ∃ x, row[e]? = some x := ⟨_, List.getElem?_eq_getElem (by omega)⟩
      obtain ⟨y, hy⟩ : ∃ y, row[e + 1]? = some y := ⟨_, List.getElem?_eq_getElem c'⟩
      refine ⟨_, rfl, _, rfl, _, _, _, _, rfl, rfl, hS, vN_at hx, rfl, _, rfl, ?_⟩
      have e46 : decide (V.int (x : Int) = V.int 46) = (x == 46) := dec_ieq (j := 46)
      rw [e46]
      cases l1 : (x == 46) with
      | true =>
        have hx' : row[e]? = some 46 := by rw [hx, beq_iff_eq.mp l1]
        have py := Qu.places_yes hx'
        refine iteT ⟨_, rfl, _, rfl, _, _, rfl, rfl, _, _, _, _, rfl, rfl, hS, vN_at (k := e + 1) hy, _, rfl, y, rfl, _, rfl, ?_⟩
        cases l2 : Lrx9.isDigit y with
        | true =>
          refine iteT ⟨_, rfl, _, rfl, _, _, rfl, rfl, _, _, rfl, row, e + 1, hR, rfl, rfl, _, rfl, ?_, ?_⟩
          · rw [py, Qu.drop_of hy, List.takeWhile_cons, if_pos l2, if_neg (List.cons_ne_nil _ _)]
            unfold Qu.runEnd
            rw [Qu.drop_of hy, List.takeWhile_cons, if_pos l2]
            omega
          · have h1 : ((e : Int) + 1) = ((e + 1 : Nat) : Int) := rfl
            rw [h1, cut_vN (by omega) (Qu.runEnd_le (by omega)), py]
            unfold Qu.runEnd
            rw [Nat.add_sub_cancel_left, Qu.take_run]
        | false =>
          refine iteF (no ?_)
          rw [py, Qu.drop_of hy, List.takeWhile_cons, if_neg (by rw [l2]; exact Bool.false_ne_true)]
      | false =>
        refine iteF (no (Qu.places_no ?_))
        rw [hx]
        intro z
        injection z with z
        rw [z] at l1
        cases l1
    · have c' : row.length ≤ e + 1 := by
        have : ¬ (((e : Int) + 1) < (row.length : Int)) := fun z => c (decide_eq_true z)
        omega
      refine iteF (no ?_)
      by_cases hx : row[e]? = some 46
      · rw [Qu.places_yes hx, List.drop_eq_nil_of_le c']
        rfl
      · exact Qu.places_no hx
  · rintro σ H' ⟨rfl, b, rfl, hbe, hpl⟩
    have ap : ∀ x ∈ Qu.placesOf (row.drop e), Lrx9.isDigit x = true := fun x hx => by
      unfold Qu.placesOf at hx
      split at hx
      · exact Qu.run_all _ x hx
      · cases hx
    generalize Qu.placesOf (row.drop e) = pl at *
    refine ⟨_, rfl, _, rfl, _, rfl, _, rfl, _, rfl, a, _, rfl, hS, fun p hp => ?_⟩
    refine ⟨_, rfl, _, rfl, _, _, rfl, rfl, _, rfl, _, rfl, _, rfl, a, _, rfl, (Same.new hp).seq hS, fun q hq => ⟨_, _, rfl, ?_⟩⟩
    have npq : p ≠ q := by rintro rfl; rw [upd_same] at hq; cases hq
    have hP : upd (upd H' p (.lst (cutV (vN row) (some (k : Int)) (some (e : Int))))) q (.lst (cutV (vN row) (some ((e : Int) + 1)) (some (b : Int)))) p = some (.lst (vN run)) := by rw [upd_ne npq, upd_same, hb]
    have hQl : upd (upd H' p (.lst (cutV (vN row) (some (k : Int)) (some (e : Int))))) q (.lst (cutV (vN row) (some ((e : Int) + 1)) (some (b : Int)))) q = some (.lst (vN pl)) := by rw [upd_same, hpl]
    have s0 : Same H' (upd (upd H' p (.lst (cutV (vN row) (some (k : Int)) (some (e : Int))))) q (.lst (cutV (vN row) (some ((e : Int) + 1)) (some (b : Int))))) := (Same.new hp).to hq
    generalize upd (upd H' p (.lst (cutV (vN row) (some (k : Int)) (some (e : Int))))) q (.lst (cutV (vN row) (some ((e : Int) + 1)) (some (b : Int)))) = H2 at *
    have bad : (9 < run.length ∨ 6 < pl.length) → LineS K H2 E ⟨k, 2⟩ := fun z => by
      rw [if_pos z] at hG
      exact (show LineF K _ H' E _ from hG).then s0.frm
    refine ⟨_, rfl, _, _, rfl, .inl (SqL.of hP), _, _, rfl, rfl, _, rfl, ?_⟩
    rw [vN_len]
    cases c1 : decide ((run.length : Int) ≤ 9) with
    | false =>
      have c1' := of_decide_eq_false c1
      exact iteF ⟨_, rfl, _, _, _, rfl, false, ⟨k, 2⟩, rfl, rfl, rfl, fun z => Bool.noConfusion z, fun _ => bad (.inl (by omega))⟩
    | true =>
      have c1' := of_decide_eq_true c1
      refine iteT ⟨_, rfl, _, _, rfl, .inl (SqL.of hQl), _, _, rfl, rfl, _, rfl, _, _, _, rfl, decide (((vN pl).length : Int) ≤ 6), ⟨k, 2⟩, rfl, rfl, rfl, fun c2 => ?_, fun c2 => ?_⟩
      · have c2' := of_decide_eq_true c2
        rw [vN_len] at c2'
        rw [if_neg (by omega)] at hG
        refine ⟨_, rfl, _, rfl, _, rfl, _, _, _, _, rfl, rfl, hP, hQl, by rw [vN_len, vN_len]; exact Nat.le_trans (show _ ≤ 160 by omega) (by decide), fun p3 h3 => ?_⟩
        refine ⟨_, rfl, run ++ pl, ⟨p3, rfl, SqL.of (by rw [upd_same]; unfold vN; rw [List.map_append])⟩, fun x hx => (List.mem_append.mp hx).elim (fun m => al x m) (fun m => ap x m), by rw [List.length_append]; omega, ?_⟩
        refine ⟨_, rfl, _, _, rfl, .inl (SqL.of ((Same.new h3) _ _ hQl)), ?_⟩
        refine ⟨_, rfl, pl.length, by rw [vN_len], by omega, ?_⟩
        refine ⟨_, _, rfl, _, 10 ^ pl.length, 20, rfl, rfl, Nat.pow_pos (by decide), Nat.lt_of_le_of_lt (Nat.pow_le_pow_right (by decide) (show pl.length ≤ 6 by omega)) (by decide), by decide, fun v H3 s3 fv => ?_⟩
        refine ⟨by show 3 ≤ sizeLine; decide, fun p4 h4 => ⟨_, rfl, by show 2 ≤ sizeLine; decide, fun p5 h5 => ?_⟩⟩
        refine hG _ _ (((s0.to h3).trans s3).to h4 |>.to h5) ⟨p5, _, rfl, SqT.of (by rw [upd_same, hbe, ee, Nat.add_assoc]), p4, v, rfl, SqT.of ?_, fun _ => (fv.same (Same.new h4)).same (Same.new h5), fun z => absurd rfl z⟩
        rw [upd_ne (by rintro rfl; rw [upd_same] at h5; cases h5), upd_same]
        rfl
      · have c2' := of_decide_eq_false c2
        rw [vN_len] at c2'
        exact bad (.inr (by omega))
theorem ok_token_at {w : World} {K : PySem.W.Frag} {mg : Str → Option Value} {base : Heap} (T : Txt w K mg) : OKF w K mg base (L2N.CX prog w) 5 d_token_at ["row", "place"] (sp_token_at K) := by
  refine okf_mk (k := 4) T 36 rfl sc_token_at rfl rfl (fun _ _ _ _ _ _ us hl => match us, hl with | [_, _], _ => rfl) sp2_len (fun f cdv A outer s H vs Q E hr h => ?_)
  refine ⟨_, (pss_cons (ps_if (pt_val (pe_ok (ok_is_letter T) (hr.mono (by decide)) rfl T.g_is_letter pass0 (pa_cons (pe_ix ix_list (pv 0) (pv 1) (fun _ _ => rfl)) pa_nil))) (pss_one (ps_ret (pe_ok (ok_name_at T) (hr.mono (by decide)) rfl T.g_name_at (L2N.passes_call (L2N.takes_of rfl rfl rfl rfl) fun _ _ _ _ h => h) (pa_cons (pv 0) (pa_cons (pv 1) pa_nil)))))
      pss_nil)
      (pss_one (ps_ret (pe_ifExp (pt_val (pe_ok (ok_is_digit T) (hr.mono (by decide)) rfl T.g_is_digit pass0 (pa_cons (pe_ix ix_list (pv 0) (pv 1) (fun _ _ => rfl)) pa_nil))) (pe_ok (ok_number_at T) (hr.mono (by decide)) rfl T.g_number_at (L2N.passes_call (L2N.takes_of rfl rfl rfl rfl) fun _ _ _ _ h => h) (pa_cons (pv 0) (pa_cons (pv 1) pa_nil))) (pe_ok (ok_symbol_at T) (hr.mono (by decide)) rfl T.g_symbol_at (L2N.passes_call (L2N.takes_of rfl rfl rfl rfl) fun _ _ _ _ h => h) (pa_cons (pv 0) (pa_cons (pv 1) pa_nil))))))), ?_⟩
  obtain ⟨_, _, rfl, row, k, n, hR, rfl, hk, hz, -, hG⟩ := h
  obtain ⟨a, rfl, hS⟩ := id hR
  refine ⟨_, rfl, _, rfl, _, _, _, _, rfl, rfl, hS, vN_at hk, _, rfl, n, rfl, _, rfl, ?_⟩
  cases l1 : Lrx9.isLetter n with
  | true => exact iteT ⟨_, rfl, _, rfl, _, _, rfl, row, k, n, hR, rfl, hk, hz, l1, hG⟩
  | false =>
    refine iteF ⟨_, rfl, _, rfl, _, _, _, _, rfl, rfl, hS, vN_at hk, _, rfl, n, rfl, _, rfl, ?_⟩
    cases l2 : Lrx9.isDigit n with
    | true => exact iteT ⟨_, rfl, _, rfl, _, _, rfl, row, k, n, hR, rfl, hk, hz, ⟨l1, l2⟩, hG⟩
    | false => exact iteF ⟨_, rfl, _, rfl, _, _, rfl, row, k, n, hR, rfl, hk, hz, ⟨l1, l2⟩, hG⟩
end Q
set_option Elab.async false
set_option linter.all false
set_option maxRecDepth 100000
set_option maxHeartbeats 4000000
namespace Q
open PySem PySem.Spec PyProof.Rows L2
/-- the tokens of a line as they lie -/
def ToksV (K : PySem.W.Frag) (H : Hp) (v : V) (ts : List Lrx9.Token) : Prop := ∃ a vs, v = .ref a ∧ H a = some (.lst vs) ∧ Paired (TokV K H) vs ts
def GivesToks (K : PySem.W.Frag) (H : Hp) (Q : VK) (E : XK) : Except Lrx9.Fault (List Lrx9.Token) → Prop
  | .error f => LineS K H E f
  | .ok ts => ∀ v H', Same H H' → ToksV K H' v ts → Q v H'
def sp_tokens_of (K : PySem.W.Frag) : Sp := sp1 fun a H Q E => ∃ row, RowV K H a row ∧ row.length ≤ 80 ∧ GivesToks K H Q E (Lrx9.tokens row)
def onTo (found : List Lrx9.Token) : Except Lrx9.Fault (List Lrx9.Token) → Except Lrx9.Fault (List Lrx9.Token)
  | .error f => .error f
  | .ok ts => .ok (found ++ ts)
theorem blank_in {b : Nat} : inV (.int (b : Int)) [.int 32, .int 9] = decide (b = 32 ∨ b = 9) := by
  show ((((32 : Int) == (b : Int)) || (((9 : Int) == (b : Int)) || false))) = _
  rw [Bool.or_false]
  by_cases h1 : b = 32
  · subst h1; rfl
  · by_cases h2 : b = 9
    · subst h2; rfl
    · have e1 : ((32 : Int) == (b : Int)) = false := by rw [beq_eq_false_iff_ne]; omega
      have e2 : ((9 : Int) == (b : Int)) = false := by rw [beq_eq_false_iff_ne]; omega
      rw [e1, e2, decide_eq_false (by omega)]
      rfl
theorem ok_tokens_of {w : World} {K : PySem.W.Frag} {mg : Str → Option Value} {base : Heap} (T : Txt w K mg) : OKF w K mg base (L2N.CX prog w) 6 d_tokens_of ["row"] (sp_tokens_of K) := by
  refine okf_mk (k := 5) T 37 rfl sc_tokens_of rfl rfl (fun _ _ _ _ _ _ us hl => match us, hl with | [_], _ => rfl) sp1_len (fun f cdv A outer s H vs Q E hr h => ?_)
  refine ⟨_, (pss_cons (ps_par (i := 1) (j := 2) rfl sc_tokens_of.nd rfl rfl (by decide) rfl rfl (pa_cons (pe_lst pa_nil) (pa_cons pe_int pa_nil)) (by rfl))
      (pss_cons (ps_while (L2.passes_of rfl) (PW.pt (pw_and (pt_cmpR op_lt (pv 2) (pe_callB call_len_seq rfl T.f_len boot_len (pa_cons (pv 0) pa_nil)) (nomark _)) (pw_and1 (pt_cmpR op_ne (pe_ix ix_list (pv 0) (pv 2) (fun _ _ => rfl)) (pe_gint rfl (T.int_COMMENT)) (nomark _)))))
      (pss_one (ps_if (pt_cmpR (op_in_seq) (pe_ix ix_list (pv 0) (pv 2) (fun _ _ => rfl)) (pe_tup (pa_cons (pe_gint rfl (T.int_SPACE)) (pa_cons (pe_gint rfl (T.int_TAB)) pa_nil))) (by rfl)) (pss_one (ps_aug (i := 2) sc_tokens_of.nd rfl (Or.inl rfl) pe_int ip_add))
      (pss_cons (ps_asg (pe_ok (ok_token_at T) (hr.mono (by decide)) rfl T.g_token_at (L2N.passes_call (L2N.takes_of rfl rfl rfl rfl) fun _ _ _ _ h => h) (pa_cons (pv 0) (pa_cons (pv 2) pa_nil))) (pg_tup rfl (pgs_cons (pg_name (i := 3) sc_tokens_of.nd rfl (Or.inl rfl)) (pgs_cons (pg_name (i := 2) sc_tokens_of.nd rfl (Or.inl rfl)) pgs_nil))))
      (pss_one (ps_expr (pe_bm PySem.F.plainAttrs_list PySem.F.slot_list_append PySem.F.type_list_append mt_append (pv 1) (pa_cons (pv 3) pa_nil))))))))
      (pss_one (ps_ret (pv 1))))), ?_⟩
  obtain ⟨_, rfl, row, hR, hz, hG⟩ := h
  obtain ⟨a, rfl, hS⟩ := id hR
  refine ⟨by show 0 ≤ sizeLine; decide, fun p hp => ⟨_, _, rfl, ?_⟩⟩
  refine ⟨fun m σ H' => ∃ (k : Nat) (fd : List Lrx9.Token) (vs : List V) (v3 : Option V), σ = [some (.ref a), some (.ref p), some (.int (k : Int)), v3] ∧ m = row.length - k ∧ Same H H' ∧ H' p = some (.lst vs) ∧ Paired (TokV K H') vs fd ∧ onTo fd (Qu.tokAt row k) = Lrx9.tokens row ∧ fd.length ≤ k,
    ⟨_, 0, [], [], none, rfl, rfl, Same.new hp, upd_same, .nil, ?_, Nat.zero_le _⟩, ?_⟩
  · rw [Qu.tokAt_0]
    cases Lrx9.tokens row <;> rfl
  rintro m σ H' ⟨k, fd, vs, v3, rfl, rfl, s1, e1, r1, ht, hfl⟩
  have done : Qu.tokAt row k = .ok [] → Q (.ref p) H' := fun z => by
    rw [z] at ht
    rw [← ht] at hG
    simp only [onTo, List.append_nil] at hG
    exact hG _ _ s1 ⟨p, vs, rfl, e1, r1⟩
  refine ⟨_, rfl, _, rfl, _, _, rfl, .inl (s1.seq hS), _, _, rfl, rfl, _, rfl, ?_⟩
  rw [vN_len]
  refine ite2 (fun c => ?_) (fun c => ?_)
  · have c' : k < row.length := by have := of_decide_eq_true c; omega
    obtain ⟨b, hb⟩ : ∃ b, row[k]? = some b := ⟨_, List.getElem?_eq_getElem c'⟩
    refine ⟨_, rfl, _, rfl, _, _, _, _, rfl, rfl, s1.seq hS, vN_at hb, rfl, _, rfl, ?_⟩
    have e35 : decide (V.int (b : Int) = V.int 35) = (b == 35) := dec_ieq (j := 35)
    rw [e35]
    cases h35 : (b == 35) with
    | true => exact iteF ⟨_, rfl, done (Qu.tokAt_hash (by rw [hb, beq_iff_eq.mp h35]))⟩
    | false =>
      have n35 : b ≠ 35 := fun z => by rw [z] at h35; cases h35
      refine iteT ⟨fun σ' H'' => ∃ m', m' < row.length - k ∧ (∃ (k : Nat) (fd : List Lrx9.Token) (vs : List V) (v3 : Option V), σ' = [some (.ref a), some (.ref p), some (.int (k : Int)), v3] ∧ m' = row.length - k ∧ Same H H'' ∧ H'' p = some (.lst vs) ∧ Paired (TokV K H'') vs fd ∧ onTo fd (Qu.tokAt row k) = Lrx9.tokens row ∧ fd.length ≤ k), fun _ _ z => z, ?_⟩
      refine ⟨_, rfl, _, rfl, _, _, _, _, rfl, rfl, s1.seq hS, vN_at hb, by show 2 ≤ sizeLine; decide, fun q hq => ⟨q, _, rfl, .inr (SqT.of upd_same), rfl, rfl, _, rfl, ?_⟩⟩
      have sq : Same H' (upd H' q (.tup [.int 32, .int 9])) := Same.new hq
      show (if inV (.int (b : Int)) [.int 32, .int 9] = true then _ else _)
      rw [blank_in]
      refine ite2 (fun c2 => ?_) (fun c2 => ?_)
      · have c2' := of_decide_eq_true c2
        refine ⟨_, rfl, _, _, rfl, rfl, _, ?_, k + 1, fd, vs, v3, rfl, rfl, s1.trans sq, sq _ _ e1, paired_imp (fun _ _ z => z.same sq) r1, ?_, by omega⟩
        · omega
        · rw [← Qu.tokAt_blank hb c2']; exact ht
      · have c2' : ¬ (b = 32 ∨ b = 9) := fun z => c2 (decide_eq_true z)
        rw [Qu.tokAt_token hb n35 c2'] at ht
        refine ⟨_, rfl, _, rfl, _, _, rfl, row, k, b, (hR.same s1).same sq, rfl, hb, hz, trivial, ?_⟩
        cases er : Lrx9.readToken (row.drop k) k with
        | error f =>
          rw [er] at ht
          rw [← ht] at hG
          exact (show LineF K _ H E f from hG).then (s1.trans sq).frm
        | ok y =>
          obtain ⟨t, n⟩ := y
          rw [er] at ht
          rintro v H3 s3 ⟨av, x, rfl, hv, hx⟩
          have n1 := Qu.read_len er
          refine ⟨av, _, rfl, hv, rfl, x, _, rfl, _, _, rfl, rfl, ?_⟩
          have e3 : H3 p = some (.lst vs) := s3 _ _ (sq _ _ e1)
          have lv : vs.length < sizeLine := by
            rw [paired_len r1]
            exact Nat.lt_of_le_of_lt (show fd.length ≤ 80 by omega) (by decide)
          refine ⟨_, rfl, .inl ⟨rfl, _, .inl (.inl e3)⟩, _, rfl, p, vs, x, rfl, rfl, e3, lv, ?_⟩
          have s4 : Same H (upd H3 p (.lst (vs ++ [x]))) := ((s1.trans sq).trans s3).put hp
          have kp : ∀ u t, TokV K H3 u t → TokV K (upd H3 p (.lst (vs ++ [x]))) u t := fun u t ⟨au, xu, hu, h1, h2, h3⟩ => by
            have tk : ∀ {b xs}, SqT K H3 b xs → SqT K (upd H3 p (.lst (vs ++ [x]))) b xs := fun {b xs} z => by
              have nb : ∀ {o : HO}, H3 b = some o → (∀ l, o ≠ .lst l) → upd H3 p (.lst (vs ++ [x])) b = some o := fun {o} z nl => by
                rw [upd_ne (by rintro rfl; rw [e3] at z; exact nl vs (Option.some.inj z).symm)]
                exact z
              rcases z with (z | ⟨o, z⟩) | z
              · exact .inl (.inl (nb z fun l q => by cases q))
              · exact .inl (.inr ⟨o, nb z fun l q => by cases q⟩)
              · exact .inr z
            refine ⟨au, xu, hu, tk h1, fun z => ?_, h3⟩
            obtain ⟨c, hc, hd⟩ := h2 z
            exact ⟨c, hc, tk hd⟩
          refine ⟨_, ?_, k + n, fd ++ [t], vs ++ [x], some x, rfl, rfl, s4, upd_same, paired_snoc (kp _ _ hx) (paired_imp (fun u t z => kp u t ((z.same sq).same s3)) r1), ?_, ?_⟩
          · omega
          · rw [← ht]
            simp only
            cases Qu.tokAt row (k + n) with
            | error f => rfl
            | ok us => simp [onTo]
          · rw [List.length_append]
            simp only [List.length_cons, List.length_nil]
            omega
  · have c' : row.length ≤ k := by
      have : ¬ ((k : Int) < (row.length : Int)) := fun z => c (decide_eq_true z)
      omega
    exact iteF ⟨_, rfl, done (Qu.tokAt_end c')⟩
end Q
set_option Elab.async false
set_option linter.all false
set_option maxRecDepth 100000
set_option maxHeartbeats 4000000
namespace Q
open PySem PySem.Spec PyProof.Rows L2
/-! ### o.f as a target -/
def gFld (K : PySem.W.Frag) (to : TE) (f : Str) : TG := fun v σ H Q => to σ H fun x H1 => ∃ a C dx fs, x = .ref a ∧ H1 a = some (.ins C dx fs) ∧ Cls K C ∧ NoAttr K C f ∧ fs.length < 1000 ∧ Q σ (upd H1 a (.ins C dx (putF f v fs)))
theorem pg_fld {X : Cx} {o : Expr} {f : Str} {pos : Pos} {to : TE} (ho : PE X o to)
    (ha : ∀ v, assign (.Attribute o f pos) X.env v = (do
      let ov ← holding [v] (eval o X.env)
      standAt pos
      holding [v, ov] (setAttr ov f v)
      release [v, ov] []) := by intro _; rfl) : PG X (.Attribute o f pos) (gFld X.K to f) := by
  refine ⟨fun pins s σ H v u Q I r h => ?_⟩
  rw [ha]
  refine wpAny_bind (wpAny_holding (thn (ho.run pins s σ H _ I h) fun ov s1 ⟨x, H1, I1, r1, a, C, dx, fs, ex, ea, c, n, l, q⟩ => ?_))
  subst ex
  obtain rfl : ov = Value.ref a := r1
  refine wpAny_bind (wpAny_standAt (wpAny_bind (wpAny_holding (setattr_ok I1 ea c n l r fun s3 I3 => ?_))))
  exact wpAny_release ⟨σ, _, I3, q⟩
theorem pe_gref {X : Cx} {x : Str} {a : Addr} {pos : Pos} (hg : Gl X x) (h : X.mg x = some (.ref a)) (hd : (x == ("__debug__" : Str)) = false := by decide) : PE X (.Name x pos) (tC (.ref a)) :=
  pe_glob (v := .ref a) hg h rfl hd
/-! ### what changes: things of S that are no tuples -/
def tupO : HO → Prop
  | .tup _ => True
  | .frz _ (.tup _) => True
  | _ => False
structure Fm (S : Addr → Prop) (H H' : Hp) : Prop where
  st : ∀ b o, H b = some o → (S b → tupO o) → H' b = some o
  no : ∀ b, H' b = none → H b = none
theorem Fm.refl {S : Addr → Prop} (H : Hp) : Fm S H H := ⟨fun _ _ e _ => e, fun _ e => e⟩
theorem Fm.trans {S : Addr → Prop} {H H1 H2 : Hp} (a : Fm S H H1) (b : Fm S H1 H2) : Fm S H H2 := ⟨fun c o e n => b.st c o (a.st c o e n) n, fun c e => a.no c (b.no c e)⟩
theorem Fm.then {S S2 : Addr → Prop} {H H1 H2 : Hp} (a : Fm S H H1) (b : Fm S2 H1 H2) (k : ∀ x, S2 x → S x ∨ H x = none) : Fm S H H2 := ⟨fun c o e n => b.st c o (a.st c o e n) fun s2 => (k c s2).elim n fun z => (by rw [z] at e; cases e), fun c e => a.no c (b.no c e)⟩
theorem Fm.imp {S S2 : Addr → Prop} {H H1 : Hp} (a : Fm S H H1) (k : ∀ x, S x → S2 x) : Fm S2 H H1 := ⟨fun c o e n => a.st c o e fun s => n (k c s), a.no⟩
theorem _root_.L2.Same.no {H H' : Hp} (s : Same H H') (b : Addr) (e : H' b = none) : H b = none := by
  cases h : H b with
  | none => rfl
  | some o => rw [s b o h] at e; cases e
theorem _root_.L2.Same.fm {S : Addr → Prop} {H H' : Hp} (s : Same H H') : Fm S H H' := ⟨fun b o e _ => s b o e, s.no⟩
theorem Fm.same {H H' : Hp} (a : Fm (fun _ => False) H H') : Same H H' := fun b o e => a.st b o e False.elim
theorem Fm.frm {S : Addr → Prop} {H H' : Hp} (a : Fm S H H') : Frm S H H' := fun b o e n => a.st b o e fun s => absurd s n
/-- an object of S, no tuple, is written -/
theorem Fm.put {S : Addr → Prop} {H H1 : Hp} {p : Addr} {o o' : HO} (a : Fm S H H1) (h : H1 p = some o) (nt : ¬ tupO o) (k : H p = none ∨ S p) : Fm S H (upd H1 p o') := by
  refine ⟨fun b u e n => ?_, fun b e => ?_⟩
  · by_cases q : b = p
    · subst q
      rcases k with k | k
      · rw [k] at e; cases e
      · rw [a.st b u e n] at h
        cases h
        exact absurd (n k) nt
    · rw [upd_ne q]
      exact a.st b u e n
  · by_cases q : b = p
    · subst q
      rw [upd_same] at e
      cases e
    · rw [upd_ne q] at e
      exact a.no b e
theorem Fm.new {S : Addr → Prop} {H H1 : Hp} {p : Addr} {o' : HO} (a : Fm S H H1) (h : H1 p = none) : Fm S H (upd H1 p o') := a.then (S2 := fun _ => False) (Same.new h).fm fun _ z => z.elim
theorem Fm.seqT {S : Addr → Prop} {K : PySem.W.Frag} {H H' : Hp} {a : Addr} {xs : List V} (e : Fm S H H') (h : SqT K H a xs) : SqT K H' a xs := by
  rcases h with (h | ⟨o, h⟩) | h
  · exact .inl (.inl (e.st _ _ h fun _ => trivial))
  · exact .inl (.inr ⟨o, e.st _ _ h fun _ => trivial⟩)
  · exact .inr h
theorem Fm.frv {S : Addr → Prop} {K : PySem.W.Frag} {H H' : Hp} {v : V} {q : Fr} (e : Fm S H H') (h : FrV K H v q) : FrV K H' v q := by
  obtain ⟨a, rfl, h⟩ := h
  exact ⟨a, rfl, e.seqT h⟩
theorem Fm.tok {S : Addr → Prop} {K : PySem.W.Frag} {H H' : Hp} {v : V} {t : Lrx9.Token} (e : Fm S H H') (h : TokV K H v t) : TokV K H' v t := by
  obtain ⟨a, x, rfl, h1, h2, h3⟩ := h
  exact ⟨a, x, rfl, e.seqT h1, fun z => e.frv (h2 z), h3⟩
theorem paired_at {α β : Type} {F : α → β → Prop} : ∀ {l : List α} {m : List β} {k : Nat} {t : β}, Paired F l m → m[k]? = some t → ∃ v, l[k]? = some v ∧ F v t
  | _, _, k, t, .nil, h => by simp at h
  | a :: l, b :: m, 0, t, .cons r _, h => by simp at h; subst h; exact ⟨a, by simp, r⟩
  | a :: l, b :: m, k + 1, t, .cons _ r, h => by
    have := paired_at (k := k) (t := t) r (by simpa using h)
    simpa using this
/-! ### words -/
theorem dec_str {a b : List Nat} : decide (V.str (sT a) = V.str (sT b)) = decide (a = b) := by
  refine decide_eq_decide.mpr ⟨fun h => ?_, fun h => by rw [h]⟩
  injection h with h
  exact sT_inj h
theorem w_plus : ("+" : Str) = sT [43] := by decide +kernel
theorem w_less : ("-" : Str) = sT [45] := by decide +kernel
theorem w_star : ("*" : Str) = sT [42] := by decide +kernel
theorem w_over : ("/" : Str) = sT [47] := by decide +kernel
theorem w_open : ("(" : Str) = sT [40] := by decide +kernel
theorem w_close : (")" : Str) = sT [41] := by decide +kernel
theorem w_nil : ("" : Str) = sT [] := by decide +kernel
/-! ### the reader -/
abbrev cReader (K : PySem.W.Frag) : Addr := He.ga K "Reader"
abbrev cLevel (K : PySem.W.Frag) : Addr := He.ga K "Level"
def rdF (l : Addr) (k len : Nat) : List (Str × V) := [("tokens", .ref l), ("at", .int (k : Int)), ("length", .int (len : Int))]
structure RD where
  a : Addr
  dx : Addr
  l : Addr
  vs : List V
  ts : List Lrx9.Token
  k : Nat
  len : Nat
def RD.rest (r : RD) : List Lrx9.Token := r.ts.drop r.k
def RD.go (r : RD) (n : Nat) : RD := { r with k := r.k + n }
structure RdO (K : PySem.W.Frag) (H : Hp) (r : RD) : Prop where
  ob : H r.a = some (.ins (cReader K) r.dx (rdF r.l r.k r.len))
  li : H r.l = some (.lst r.vs)
  tk : Paired (TokV K H) r.vs r.ts
  le : r.k ≤ r.ts.length
  sz : r.ts.length ≤ 80
def goH (K : PySem.W.Frag) (H : Hp) (r : RD) : Hp := upd H r.a (.ins (cReader K) r.dx (rdF r.l r.k r.len))
theorem RdO.fm {S : Addr → Prop} {K : PySem.W.Frag} {H H' : Hp} {r : RD} (R : RdO K H r) (e : Fm S H H') (ha : ¬ S r.a) (hl : ¬ S r.l) : RdO K H' r :=
  ⟨e.st _ _ R.ob fun s => absurd s ha, e.st _ _ R.li fun s => absurd s hl, paired_imp (fun _ _ z => e.tok z) R.tk, R.le, R.sz⟩
theorem RdO.same {K : PySem.W.Frag} {H H' : Hp} {r : RD} (R : RdO K H r) (e : Same H H') : RdO K H' r := R.fm (S := fun _ => False) e.fm id id
theorem RdO.ne {K : PySem.W.Frag} {H : Hp} {r : RD} (R : RdO K H r) : r.l ≠ r.a := fun z => by
  have := R.li
  rw [z, R.ob] at this
  cases this
theorem go_fm {K : PySem.W.Frag} {H : Hp} {r r' : RD} (R : RdO K H r) (e : r'.a = r.a) : Fm (fun b => b = r.a) H (goH K H r') := by
  unfold goH
  rw [e]
  exact (Fm.refl H).put R.ob id (.inr rfl)
theorem RdO.go {K : PySem.W.Frag} {H : Hp} {r : RD} (R : RdO K H r) {n : Nat} (h : r.k + n ≤ r.ts.length) : RdO K (goH K H (r.go n)) (r.go n) :=
  ⟨upd_same, by
    show upd H r.a _ r.l = _
    rw [upd_ne R.ne]
    exact R.li, paired_imp (fun _ _ z => (go_fm (r' := r.go n) R rfl).tok z) R.tk, h, R.sz⟩
theorem RdO.go0 {K : PySem.W.Frag} {H : Hp} {r : RD} (R : RdO K H r) : goH K H (r.go 0) = H := by
  funext b
  unfold goH
  by_cases q : b = r.a
  · subst q
    show upd H r.a _ r.a = _
    rw [upd_same, R.ob]
    rfl
  · exact upd_ne q
theorem RdO.nil {K : PySem.W.Frag} {H : Hp} {r : RD} (R : RdO K H r) (h : r.rest = []) : r.k = r.vs.length := by
  have := List.drop_eq_nil_iff.mp h
  have := R.le
  rw [paired_len R.tk]
  omega
theorem RdO.cons {K : PySem.W.Frag} {H : Hp} {r : RD} (R : RdO K H r) {t : Lrx9.Token} {m : List Lrx9.Token} (h : r.rest = t :: m) :
    ∃ (b : Addr) (x : V), r.k < r.vs.length ∧ atI r.vs (r.k : Int) = some (.ref b) ∧ SqT K H b [.int (t.kind : Int), .int (t.column : Int), x] ∧ (t.kind = 1 → FrV K H x t.value) ∧ (t.kind ≠ 1 → x = .str (sT t.text)) ∧ (r.go 1).rest = m ∧ r.k + 1 ≤ r.ts.length := by
  have lt : r.k < r.ts.length := by
    by_cases c : r.k < r.ts.length
    · exact c
    · unfold RD.rest at h
      rw [List.drop_eq_nil_of_le (by omega)] at h
      cases h
  have e := List.drop_eq_getElem_cons lt
  unfold RD.rest at h
  rw [e] at h
  injection h with h1 h2
  obtain ⟨v, hv, b, x, rfl, h3, h4, h5⟩ := paired_at R.tk (t := t) (k := r.k) (by rw [List.getElem?_eq_getElem lt, h1])
  exact ⟨b, x, by rw [paired_len R.tk]; exact lt, atI_nat hv, h3, h4, h5, h2, lt⟩
def sp_Reader_init (K : PySem.W.Frag) : Sp := sp3 fun a b c H Q _ => ∃ (x dx l : Addr) (n : Nat), a = .ref x ∧ b = .ref l ∧ c = .int (n : Int) ∧ H x = some (.ins (cReader K) dx []) ∧ ∀ H', H' = upd H x (.ins (cReader K) dx (rdF l 0 n)) → Q .non H'
theorem ok_Reader_init {w : World} {K : PySem.W.Frag} {mg : Str → Option Value} {base : Heap} (T : Txt w K mg) : OKF w K mg base (CX0) 1 d_Reader_init ["self", "tokens", "length"] (sp_Reader_init K) := by
  refine okf_mk (k := 0) T 38 rfl sc_Reader_init rfl rfl (fun _ _ _ _ _ _ us hl => match us, hl with | [_, _, _], _ => rfl) sp3_len (fun f cdv A outer s H vs Q E hr h => ?_)
  refine ⟨_, (PSs.nox (pss_cons (ps_fld (pv 0) (pv 1) rfl)
      (pss_cons (ps_fld (pv 0) pe_int rfl)
      (pss_one (ps_fld (pv 0) (pv 2) rfl))))), ?_⟩
  obtain ⟨_, _, _, rfl, x, dx, l, n, rfl, rfl, rfl, hx, hQ⟩ := h
  refine ⟨_, rfl, _, rfl, x, _, dx, _, rfl, hx, T.c_Reader, T.n_Reader_tokens, Nat.le_of_ble_eq_true rfl, ?_⟩
  refine ⟨_, rfl, x, _, dx, _, rfl, upd_same, T.c_Reader, T.n_Reader_at, Nat.le_of_ble_eq_true rfl, ?_⟩
  refine ⟨_, rfl, _, rfl, x, _, dx, _, rfl, upd_same, T.c_Reader, T.n_Reader_length, Nat.le_of_ble_eq_true rfl, ?_⟩
  show Q .non (upd (upd (upd H x _) x _) x _)
  rw [upd_upd, upd_upd]
  exact hQ _ rfl
def opS (op : Nat) : List Nat := if op = 0 then [] else [op]
def lvF (tv : V) (mi : Bool) (mv : V) (op col : Nat) (tu : Bool) : List (Str × V) :=
  [("total", tv), ("sign", .str (sT (if mi = true then [45] else [43]))), ("term", mv), ("operator", .str (sT (opS op))), ("column", .int (col : Int)), ("is_turned", .bl tu)]
def lv0 (K : PySem.W.Frag) : List (Str × V) := lvF (.ref (He.ga K "NOUGHT")) false (.ref (He.ga K "NOUGHT")) 0 0 false
def sp_Level_init (K : PySem.W.Frag) : Sp := sp1 fun a H Q _ => ∃ (x dx : Addr), a = .ref x ∧ H x = some (.ins (cLevel K) dx []) ∧ ∀ H', H' = upd H x (.ins (cLevel K) dx (lv0 K)) → Q .non H'
theorem ok_Level_init {w : World} {K : PySem.W.Frag} {mg : Str → Option Value} {base : Heap} (T : Txt w K mg) : OKF w K mg base (CX0) 1 d_Level_init ["self"] (sp_Level_init K) := by
  refine okf_mk (k := 0) T 39 rfl sc_Level_init rfl rfl (fun _ _ _ _ _ _ us hl => match us, hl with | [_], _ => rfl) sp1_len (fun f cdv A outer s H vs Q E hr h => ?_)
  refine ⟨_, (PSs.nox (pss_cons (ps_fld (pv 0) (pe_gref rfl (T.g_NOUGHT)) rfl)
      (pss_cons (ps_fld (pv 0) pe_str rfl)
      (pss_cons (ps_fld (pv 0) (pe_gref rfl (T.g_NOUGHT)) rfl)
      (pss_cons (ps_fld (pv 0) pe_str rfl)
      (pss_cons (ps_fld (pv 0) pe_int rfl)
      (pss_one (ps_fld (pv 0) pe_bl rfl)))))))), ?_⟩
  obtain ⟨_, rfl, x, dx, rfl, hx, hQ⟩ := h
  refine ⟨_, rfl, x, _, dx, _, rfl, hx, T.c_Level, T.n_Level_total, Nat.le_of_ble_eq_true rfl, ?_⟩
  refine ⟨_, rfl, x, _, dx, _, rfl, upd_same, T.c_Level, T.n_Level_sign, Nat.le_of_ble_eq_true rfl, ?_⟩
  refine ⟨_, rfl, x, _, dx, _, rfl, upd_same, T.c_Level, T.n_Level_term, Nat.le_of_ble_eq_true rfl, ?_⟩
  refine ⟨_, rfl, x, _, dx, _, rfl, upd_same, T.c_Level, T.n_Level_operator, Nat.le_of_ble_eq_true rfl, ?_⟩
  refine ⟨_, rfl, x, _, dx, _, rfl, upd_same, T.c_Level, T.n_Level_column, Nat.le_of_ble_eq_true rfl, ?_⟩
  refine ⟨_, rfl, x, _, dx, _, rfl, upd_same, T.c_Level, T.n_Level_is_turned, Nat.le_of_ble_eq_true rfl, ?_⟩
  show Q .non (upd (upd (upd (upd (upd (upd H x _) x _) x _) x _) x _) x _)
  rw [upd_upd, upd_upd, upd_upd, upd_upd, upd_upd]
  refine hQ _ ?_
  unfold lv0
  unfold lvF
  rw [if_neg Bool.false_ne_true, ← w_plus, show opS 0 = [] from rfl, ← w_nil]
  rfl
def sp_column_next (K : PySem.W.Frag) : Sp := sp1 fun a H Q _ => ∃ r, a = .ref r.a ∧ RdO K H r ∧ Q (.int (Lrx9.columnOf r.rest r.len : Nat)) H
theorem ok_column_next {w : World} {K : PySem.W.Frag} {mg : Str → Option Value} {base : Heap} (T : Txt w K mg) : OKF w K mg base (CX0) 1 d_column_next ["reader"] (sp_column_next K) := by
  refine okf_mk (k := 0) T 40 rfl sc_column_next rfl rfl (fun _ _ _ _ _ _ us hl => match us, hl with | [_], _ => rfl) sp1_len (fun f cdv A outer s H vs Q E hr h => ?_)
  refine ⟨_, (PSs.nox (pss_one (ps_ret (pe_ifExp (pt_cmpR op_lt (pe_fld (pv 0) rfl) (pe_callB call_len_seq rfl T.f_len boot_len (pa_cons (pe_fld (pv 0) rfl) pa_nil)) (nomark _)) (pe_ix ix_tup (pe_ix ix_list (pe_fld (pv 0) rfl) (pe_fld (pv 0) rfl) (fun _ _ => rfl)) pe_int (fun _ _ => rfl)) (pe_fld (pv 0) rfl))))), ?_⟩
  obtain ⟨_, rfl, r, rfl, R, hQ⟩ := h
  refine ⟨_, rfl, _, _, _, _, _, rfl, R.ob, T.c_Reader, T.n_Reader_at, rfl, _, rfl, _, _, _, _, _, rfl, R.ob, T.c_Reader, T.n_Reader_tokens, rfl, _, _, rfl, .inl (SqL.of R.li), _, _, rfl, rfl, _, rfl, ?_⟩
  cases hr : r.rest with
  | nil =>
    rw [hr] at hQ
    have := R.nil hr
    rw [decide_eq_false (by omega)]
    exact iteF ⟨_, rfl, _, _, _, _, _, rfl, R.ob, T.c_Reader, T.n_Reader_length, rfl, hQ⟩
  | cons t m =>
    rw [hr] at hQ
    obtain ⟨b, x, lt, ha, hs, -⟩ := R.cons hr
    rw [decide_eq_true (by omega)]
    exact iteT ⟨_, rfl, _, _, _, _, _, rfl, R.ob, T.c_Reader, T.n_Reader_tokens, rfl, _, rfl, _, _, _, _, _, rfl, R.ob, T.c_Reader, T.n_Reader_at, rfl, _, _, _, _, rfl, rfl, SqL.of R.li, ha, _, _, _, _, rfl, rfl, hs, at1, hQ⟩
def isAt (rest : List Lrx9.Token) (kd : Nat) (tx : List Nat) : Bool := match rest with
  | [] => false
  | t :: _ => t.kind == kd && t.text == tx
def sp_is_next (K : PySem.W.Frag) : Sp := sp3 fun a b c H Q _ => ∃ (r : RD) (kd : Nat) (tx : List Nat), a = .ref r.a ∧ RdO K H r ∧ b = .int (kd : Int) ∧ kd ≠ 1 ∧ c = .str (sT tx) ∧ Q (.bl (isAt r.rest kd tx)) H
theorem ok_is_next {w : World} {K : PySem.W.Frag} {mg : Str → Option Value} {base : Heap} (T : Txt w K mg) : OKF w K mg base (CX0) 1 d_is_next ["reader", "kind", "value"] (sp_is_next K) := by
  refine okf_mk (k := 0) T 41 rfl sc_is_next rfl rfl (fun _ _ _ _ _ _ us hl => match us, hl with | [_, _, _], _ => rfl) sp3_len (fun f cdv A outer s H vs Q E hr h => ?_)
  refine ⟨_, (PSs.nox (pss_cons (ps_if (pt_cmpR op_ge (pe_fld (pv 0) rfl) (pe_callB call_len_seq rfl T.f_len boot_len (pa_cons (pe_fld (pv 0) rfl) pa_nil)) (nomark _)) (pss_one (ps_ret pe_bl))
      pss_nil)
      (pss_cons (ps_set (i := 3) sc_is_next.nd rfl (Or.inl rfl) (pe_ix ix_list (pe_fld (pv 0) rfl) (pe_fld (pv 0) rfl) (fun _ _ => rfl)))
      (pss_one (ps_ret (pe_and (pe_cmpR op_eq (pe_ix ix_tup (pv 3) pe_int (fun _ _ => rfl)) (pv 1) (nomark _)) (pe_one (pe_cmpR op_eq (pe_ix ix_tup (pv 3) pe_int (fun _ _ => rfl)) (pv 2) (nomark _))))))))), ?_⟩
  obtain ⟨_, _, _, rfl, r, kd, tx, rfl, R, rfl, k1, rfl, hQ⟩ := h
  refine ⟨_, rfl, _, _, _, _, _, rfl, R.ob, T.c_Reader, T.n_Reader_at, rfl, _, rfl, _, _, _, _, _, rfl, R.ob, T.c_Reader, T.n_Reader_tokens, rfl, _, _, rfl, .inl (SqL.of R.li), _, _, rfl, rfl, _, rfl, ?_⟩
  cases hr : r.rest with
  | nil =>
    rw [hr] at hQ
    have := R.nil hr
    rw [decide_eq_true (by omega)]
    exact iteT hQ
  | cons t m =>
    rw [hr] at hQ
    obtain ⟨b, x, lt, ha, hs, -, hx, -⟩ := R.cons hr
    rw [decide_eq_false (by omega)]
    refine iteF ⟨_, rfl, _, _, _, _, _, rfl, R.ob, T.c_Reader, T.n_Reader_tokens, rfl, _, rfl, _, _, _, _, _, rfl, R.ob, T.c_Reader, T.n_Reader_at, rfl, _, _, _, _, rfl, rfl, SqL.of R.li, ha, _, rfl, _, _, _, _, rfl, rfl, hs, at0, _, rfl, rfl, _, rfl, ?_⟩
    rw [dec_ieq]
    simp only [isAt] at hQ
    cases c : (t.kind == kd) with
    | false =>
      rw [c] at hQ
      exact iteF hQ
    | true =>
      rw [c, Bool.true_and] at hQ
      have hx' := hx (by rw [beq_iff_eq.mp c]; exact k1)
      subst hx'
      refine iteT ⟨_, rfl, _, _, _, _, rfl, rfl, hs, at2, _, rfl, rfl, ?_⟩
      rw [dec_str, ← Bool.beq_eq_decide_eq]
      exact hQ
def sp_take_if (K : PySem.W.Frag) : Sp := sp3 fun a b c H Q _ => ∃ (r : RD) (kd : Nat) (tx : List Nat), a = .ref r.a ∧ RdO K H r ∧ b = .int (kd : Int) ∧ kd ≠ 1 ∧ c = .str (sT tx) ∧ ∀ H', H' = goH K H (r.go (if isAt r.rest kd tx = true then 1 else 0)) → Q (.bl (isAt r.rest kd tx)) H'
theorem ok_take_if {w : World} {K : PySem.W.Frag} {mg : Str → Option Value} {base : Heap} (T : Txt w K mg) : OKF w K mg base (CX0) 2 d_take_if ["reader", "kind", "value"] (sp_take_if K) := by
  refine okf_mk (k := 1) T 42 rfl sc_take_if rfl rfl (fun _ _ _ _ _ _ us hl => match us, hl with | [_, _, _], _ => rfl) sp3_len (fun f cdv A outer s H vs Q E hr h => ?_)
  refine ⟨_, (PSs.nox (pss_cons (ps_set (i := 3) sc_take_if.nd rfl (Or.inl rfl) (pe_ok (ok_is_next T) (hr.mono (by decide)) rfl T.g_is_next pass0 (pa_cons (pv 0) (pa_cons (pv 1) (pa_cons (pv 2) pa_nil)))))
      (pss_cons (ps_fldaug (pv 0) (pe_callTy call_int1 rfl T.f_int (by decide +kernel) (pa_cons (pv 3) pa_nil)) in_add)
      (pss_one (ps_ret (pv 3)))))), ?_⟩
  obtain ⟨_, _, _, rfl, r, kd, tx, rfl, R, rfl, k1, rfl, hQ⟩ := h
  refine ⟨_, rfl, _, rfl, _, rfl, _, _, _, rfl, r, kd, tx, rfl, R, rfl, k1, rfl, ?_⟩
  refine ⟨_, rfl, _, _, _, _, _, rfl, R.ob, T.c_Reader, T.n_Reader_at, rfl, _, rfl, .inr ⟨_, rfl, _, _, rfl, rfl, _, _, R.ob, Nat.le_of_ble_eq_true rfl, _, rfl, ?_⟩⟩
  have e : putF "at" (V.int ((r.k : Int) + (if isAt r.rest kd tx = true then 1 else 0))) (rdF r.l r.k r.len) = rdF r.l (r.k + (if isAt r.rest kd tx = true then 1 else 0)) r.len := by
    cases isAt r.rest kd tx <;> rfl
  rw [e]
  exact hQ _ rfl
def symAt (rest : List Lrx9.Token) (l : List Nat) : List Nat := match rest with
  | [] => []
  | t :: _ => if t.kind = 2 ∧ (l.any fun b => t.text == [b]) = true then t.text else []
def sp_symbol_next (K : PySem.W.Frag) : Sp := sp2 fun a b H Q _ => ∃ (r : RD) (p : Addr) (l : List Nat), a = .ref r.a ∧ RdO K H r ∧ b = .ref p ∧ SqT K H p (l.map fun b => V.str (sT [b])) ∧ Q (.str (sT (symAt r.rest l))) H
theorem in_syms {x : List Nat} : ∀ l : List Nat, inV (.str (sT x)) (l.map fun b => V.str (sT [b])) = l.any fun b => x == [b]
  | [] => rfl
  | b :: r => by
    have ih := in_syms (x := x) r
    unfold inV at ih ⊢
    rw [List.map_cons, List.any_cons, List.any_cons, ih]
    congr 1
    show (sT [b] == sT x) = (x == [b])
    rw [Bool.eq_iff_iff, beq_iff_eq, beq_iff_eq]
    exact ⟨fun h => (sT_inj h).symm, fun h => by rw [h]⟩
theorem flat_syms : ∀ l : List Nat, (l.map fun b => V.str (sT [b])).all flatV = true
  | [] => rfl
  | b :: r => by
    rw [List.map_cons, List.all_cons, flat_syms r]
    rfl
theorem ok_symbol_next {w : World} {K : PySem.W.Frag} {mg : Str → Option Value} {base : Heap} (T : Txt w K mg) : OKF w K mg base (CX0) 1 d_symbol_next ["reader", "symbols"] (sp_symbol_next K) := by
  refine okf_mk (k := 0) T 43 rfl sc_symbol_next rfl rfl (fun _ _ _ _ _ _ us hl => match us, hl with | [_, _], _ => rfl) sp2_len (fun f cdv A outer s H vs Q E hr h => ?_)
  refine ⟨_, (PSs.nox (pss_cons (ps_if (PW.pt (pw_or (pt_cmpR op_ge (pe_fld (pv 0) rfl) (pe_callB call_len_seq rfl T.f_len boot_len (pa_cons (pe_fld (pv 0) rfl) pa_nil)) (nomark _)) (pw_or1 (pt_cmpR op_ne (pe_ix ix_tup (pe_ix ix_list (pe_fld (pv 0) rfl) (pe_fld (pv 0) rfl) (fun _ _ => rfl)) pe_int (fun _ _ => rfl)) (pe_gint rfl (T.int_SYMBOL)) (nomark _))))) (pss_one (ps_ret pe_str))
      pss_nil)
      (pss_one (ps_ret (pe_ifExp (pt_cmpR (op_in_seq) (pe_ix ix_tup (pe_ix ix_list (pe_fld (pv 0) rfl) (pe_fld (pv 0) rfl) (fun _ _ => rfl)) pe_int (fun _ _ => rfl)) (pv 1) (by rfl)) (pe_ix ix_tup (pe_ix ix_list (pe_fld (pv 0) rfl) (pe_fld (pv 0) rfl) (fun _ _ => rfl)) pe_int (fun _ _ => rfl)) pe_str))))), ?_⟩
  obtain ⟨_, _, rfl, r, p, l, rfl, R, rfl, hp, hQ⟩ := h
  refine ⟨_, rfl, _, _, _, _, _, rfl, R.ob, T.c_Reader, T.n_Reader_at, rfl, _, rfl, _, _, _, _, _, rfl, R.ob, T.c_Reader, T.n_Reader_tokens, rfl, _, _, rfl, .inl (SqL.of R.li), _, _, rfl, rfl, _, rfl, ?_⟩
  cases hr : r.rest with
  | nil =>
    rw [hr] at hQ
    have := R.nil hr
    rw [decide_eq_true (by omega)]
    exact iteT (iteT hQ)
  | cons t m =>
    rw [hr] at hQ
    simp only [symAt] at hQ
    obtain ⟨b, x, lt, ha, hs, -, hx, -⟩ := R.cons hr
    rw [decide_eq_false (by omega)]
    refine iteF ⟨_, rfl, _, _, _, _, _, rfl, R.ob, T.c_Reader, T.n_Reader_tokens, rfl, _, rfl, _, _, _, _, _, rfl, R.ob, T.c_Reader, T.n_Reader_at, rfl, _, _, _, _, rfl, rfl, SqL.of R.li, ha, _, _, _, _, rfl, rfl, hs, at0, rfl, _, rfl, ?_⟩
    have e2 : decide (V.int (t.kind : Int) = V.int 2) = (t.kind == 2) := dec_ieq (j := 2)
    rw [e2]
    cases c : (t.kind == 2) with
    | false =>
      have c' : t.kind ≠ 2 := fun z => by rw [z] at c; cases c
      rw [if_neg (fun z => c' z.1)] at hQ
      exact iteT hQ
    | true =>
      have c' : t.kind = 2 := beq_iff_eq.mp c
      have hx' := hx (by omega)
      subst hx'
      refine iteF ⟨_, rfl, _, _, _, _, _, rfl, R.ob, T.c_Reader, T.n_Reader_tokens, rfl, _, rfl, _, _, _, _, _, rfl, R.ob, T.c_Reader, T.n_Reader_at, rfl, _, _, _, _, rfl, rfl, SqL.of R.li, ha, _, _, _, _, rfl, rfl, hs, at2, _, rfl, _, _, rfl, .inr hp, rfl, flat_syms l, _, rfl, ?_⟩
      show (if (if false = true then _ else inV (.str (sT t.text)) (l.map fun b => V.str (sT [b]))) = true then _ else _)
      rw [if_neg Bool.false_ne_true, in_syms]
      refine ite2 (fun c2 => ?_) (fun c2 => ?_)
      · rw [if_pos ⟨c', c2⟩] at hQ
        exact ⟨_, rfl, _, _, _, _, _, rfl, R.ob, T.c_Reader, T.n_Reader_tokens, rfl, _, rfl, _, _, _, _, _, rfl, R.ob, T.c_Reader, T.n_Reader_at, rfl, _, _, _, _, rfl, rfl, SqL.of R.li, ha, _, _, _, _, rfl, rfl, hs, at2, hQ⟩
      · rw [if_neg (fun z => c2 z.2)] at hQ
        exact hQ
def sp_unexpected (K : PySem.W.Frag) : Sp := sp1 fun a H Q E => ∃ r, a = .ref r.a ∧ RdO K H r ∧ LineS K H E ⟨Lrx9.columnOf r.rest r.len, 3⟩
theorem ok_unexpected {w : World} {K : PySem.W.Frag} {mg : Str → Option Value} {base : Heap} (T : Txt w K mg) : OKF w K mg base (L2N.CX prog w) 4 d_unexpected ["reader"] (sp_unexpected K) := by
  refine okf_mk (k := 3) T 44 rfl sc_unexpected rfl rfl (fun _ _ _ _ _ _ us hl => match us, hl with | [_], _ => rfl) sp1_len (fun f cdv A outer s H vs Q E hr h => ?_)
  refine ⟨_, (pss_one (ps_expr (pe_ok (ok_need T) (hr.mono (by decide)) rfl T.g_need (L2N.passes_call (L2N.takes_of rfl rfl rfl rfl) fun _ _ _ _ h => h) (pa_cons pe_bl (pa_cons (pe_ok (ok_column_next T) (hr.mono (by decide)) rfl T.g_column_next pass0 (pa_cons (pv 0) pa_nil)) (pa_cons (pe_gint rfl (T.int_UNEXPECTED)) pa_nil)))))), ?_⟩
  obtain ⟨_, rfl, r, rfl, R, hE⟩ := h
  exact ⟨_, rfl, _, rfl, r, rfl, R, _, _, _, rfl, false, ⟨Lrx9.columnOf r.rest r.len, 3⟩, rfl, rfl, rfl, fun z => Bool.noConfusion z, fun _ => hE⟩
def sp_take_end (K : PySem.W.Frag) : Sp := sp1 fun a H Q E => ∃ r, a = .ref r.a ∧ RdO K H r ∧ match Lrx9.isNothingLeft r.rest r.len with
  | .error f => LineS K H E f
  | .ok _ => Q .non H
theorem ok_take_end {w : World} {K : PySem.W.Frag} {mg : Str → Option Value} {base : Heap} (T : Txt w K mg) : OKF w K mg base (L2N.CX prog w) 4 d_take_end ["reader"] (sp_take_end K) := by
  refine okf_mk (k := 3) T 45 rfl sc_take_end rfl rfl (fun _ _ _ _ _ _ us hl => match us, hl with | [_], _ => rfl) sp1_len (fun f cdv A outer s H vs Q E hr h => ?_)
  refine ⟨_, (pss_one (ps_expr (pe_ok (ok_need T) (hr.mono (by decide)) rfl T.g_need (L2N.passes_call (L2N.takes_of rfl rfl rfl rfl) fun _ _ _ _ h => h) (pa_cons (pe_cmpR op_eq (pe_fld (pv 0) rfl) (pe_callB call_len_seq rfl T.f_len boot_len (pa_cons (pe_fld (pv 0) rfl) pa_nil)) (nomark _)) (pa_cons (pe_ok (ok_column_next T) (hr.mono (by decide)) rfl T.g_column_next pass0 (pa_cons (pv 0) pa_nil)) (pa_cons (pe_gint rfl (T.int_UNEXPECTED)) pa_nil)))))), ?_⟩
  obtain ⟨_, rfl, r, rfl, R, hE⟩ := h
  refine ⟨_, rfl, _, _, _, _, _, rfl, R.ob, T.c_Reader, T.n_Reader_at, rfl, _, rfl, _, _, _, _, _, rfl, R.ob, T.c_Reader, T.n_Reader_tokens, rfl, _, _, rfl, .inl (SqL.of R.li), rfl, _, rfl, _, rfl, r, rfl, R, _, _, _, rfl, decide (r.rest = []), ⟨Lrx9.columnOf r.rest r.len, 3⟩, ?_, rfl, rfl, fun z => ?_, fun z => ?_⟩
  · rw [dec_ieq]
    refine congrArg V.bl ?_
    rw [Bool.beq_eq_decide_eq]
    refine decide_eq_decide.mpr ?_
    unfold RD.rest
    rw [List.drop_eq_nil_iff, paired_len R.tk]
    have := R.le
    omega
  · unfold Lrx9.isNothingLeft at hE
    rw [if_pos (of_decide_eq_true z)] at hE
    exact hE
  · unfold Lrx9.isNothingLeft at hE
    rw [if_neg (of_decide_eq_false z)] at hE
    exact hE
/-! ### levels -/
def LvV (K : PySem.W.Frag) (H : Hp) (x : Addr) (p : Qu.Pend) : Prop := ∃ (dx : Addr) (tv mv : V), H x = some (.ins (cLevel K) dx (lvF tv p.minus mv p.op p.col p.turned)) ∧ FrV K H tv p.total ∧ FrV K H mv p.term
def TpV (K : PySem.W.Frag) (H : Hp) (x : Addr) (t : Qu.Top) : Prop := ∃ op col, LvV K H x ⟨t.total, t.minus, t.term, op, col, false⟩
theorem LvV.fm {S : Addr → Prop} {K : PySem.W.Frag} {H H' : Hp} {x : Addr} {p : Qu.Pend} (h : LvV K H x p) (e : Fm S H H') (n : ¬ S x) : LvV K H' x p := by
  obtain ⟨dx, tv, mv, h1, h2, h3⟩ := h
  exact ⟨dx, tv, mv, e.st _ _ h1 fun s => absurd s n, e.frv h2, e.frv h3⟩
theorem TpV.fm {S : Addr → Prop} {K : PySem.W.Frag} {H H' : Hp} {x : Addr} {t : Qu.Top} (h : TpV K H x t) (e : Fm S H H') (n : ¬ S x) : TpV K H' x t := by
  obtain ⟨op, col, h⟩ := h
  exact ⟨op, col, h.fm e n⟩
def sp_whole_of (K : PySem.W.Frag) : Sp := sp1 fun a H Q _ => ∃ (x : Addr) (t : Qu.Top) (n : Nat), a = .ref x ∧ TpV K H x t ∧ Qu.VT t n ∧ n ≤ 7000 ∧ GivesF K t.value H Q
theorem ok_whole_of {w : World} {K : PySem.W.Frag} {mg : Str → Option Value} {base : Heap} (T : Txt w K mg) : OKF w K mg base (CX0) 4 d_whole_of ["level"] (sp_whole_of K) := by
  refine okf_mk (k := 3) T 46 rfl sc_whole_of rfl rfl (fun _ _ _ _ _ _ us hl => match us, hl with | [_], _ => rfl) sp1_len (fun f cdv A outer s H vs Q E hr h => ?_)
  refine ⟨_, (PSs.nox (pss_one (ps_ret (pe_ifExp (pt_cmpR op_eq (pe_fld (pv 0) rfl) pe_str (nomark _)) (pe_ok (ok_plus T) (hr.mono (by decide)) rfl T.g_plus pass0 (pa_cons (pe_fld (pv 0) rfl) (pa_cons (pe_fld (pv 0) rfl) pa_nil))) (pe_ok (ok_less T) (hr.mono (by decide)) rfl T.g_less pass0 (pa_cons (pe_fld (pv 0) rfl) (pa_cons (pe_fld (pv 0) rfl) pa_nil))))))), ?_⟩
  obtain ⟨_, rfl, x, t, n, rfl, ⟨op, col, dx, tv, mv, hx, ht, hm⟩, hv, hn, hQ⟩ := h
  obtain ⟨a, b, ba, bb, l⟩ := hv.bd
  have two : Two K H tv mv t.total t.term a b := ⟨ht, hm, hv.rt, hv.rm, ba, bb, by omega⟩
  refine ⟨_, rfl, _, _, _, _, _, rfl, hx, T.c_Level, T.n_Level_sign, rfl, rfl, _, rfl, ?_⟩
  have e : decide (V.str (sT (if t.minus = true then [45] else [43])) = V.str "+") = !t.minus := by
    rw [w_plus, dec_str]
    cases t.minus <;> rfl
  rw [e]
  cases hmi : t.minus with
  | false =>
    have ev : t.value = Lrx1.add t.total t.term := by unfold Qu.Top.value; rw [hmi]; exact if_neg Bool.false_ne_true
    rw [ev] at hQ
    exact iteT ⟨_, rfl, _, _, _, _, _, rfl, hx, T.c_Level, T.n_Level_total, rfl, _, rfl, _, _, _, _, _, rfl, hx, T.c_Level, T.n_Level_term, rfl, _, _, rfl, _, _, _, _, two, hQ⟩
  | true =>
    have ev : t.value = Lrx1.sub t.total t.term := by unfold Qu.Top.value; rw [hmi]; exact if_pos rfl
    rw [ev] at hQ
    exact iteF ⟨_, rfl, _, _, _, _, _, rfl, hx, T.c_Level, T.n_Level_total, rfl, _, rfl, _, _, _, _, _, rfl, hx, T.c_Level, T.n_Level_term, rfl, _, _, rfl, _, _, _, _, two, hQ⟩
end Q
set_option Elab.async false
set_option linter.all false
set_option maxRecDepth 100000
set_option maxHeartbeats 4000000
namespace Q
open PySem PySem.Spec PyProof.Rows L2
def sp_put_factor (K : PySem.W.Frag) : Sp := sp2 fun a b H Q E => ∃ (x : Addr) (p : Qu.Pend) (q : Fr) (n m : Nat), a = .ref x ∧ LvV K H x p ∧ FrV K H b q ∧ Qu.VP p n ∧ Qu.Red q ∧ Qu.Bd m q ∧ n + m ≤ 7000 ∧
  match Qu.put p q with
  | .error f => LineF K (fun y => y = x) H E f
  | .ok t => ∀ H', Fm (fun y => y = x) H H' → TpV K H' x t → Q .non H'
theorem ne_nought {q : Fr} (hq : Qu.Red q) : (!PyData.eqv (.tuple [.int q.num, .int (q.den : Int)]) (.tuple [.int 0, .int 1])) = !decide (q = Lrx1.zero) := by
  have e : PyData.eqv (.tuple [.int q.num, .int (q.den : Int)]) (.tuple [.int 0, .int 1]) = ((q.num == 0) && (((q.den : Int) == 1) && true)) := by simp only [PyData.eqv, PyData.eqvAll]
  rw [e]
  congr 1
  by_cases c : q.num = 0
  · have z := (Qu.red_zero_iff hq).mpr c
    subst z
    rfl
  · have nz : ¬ q = Lrx1.zero := fun z => c ((Qu.red_zero_iff hq).mp z)
    rw [decide_eq_false nz, beq_eq_false_iff_ne.mpr c]
    rfl
theorem shaped2 (i j : Int) : SeqAt.shaped (.tuple [.int i, .int j]) = true := rfl
theorem dp2 {K : PySem.W.Frag} {H : Hp} {a : Addr} {i j : Int} (h : SqT K H a [.int i, .int j]) : Dp K H (.ref a) (.tuple [.int i, .int j]) := .tup h (.cons (.int i) (.cons (.int j) .nil))
theorem ok_put_factor {w : World} {K : PySem.W.Frag} {mg : Str → Option Value} {base : Heap} (T : Txt w K mg) : OKF w K mg base (L2N.CX prog w) 4 d_put_factor ["level", "value"] (sp_put_factor K) := by
  refine okf_mk (k := 3) T 47 rfl sc_put_factor rfl rfl (fun _ _ _ _ _ _ us hl => match us, hl with | [_, _], _ => rfl) sp2_len (fun f cdv A outer s H vs Q E hr h => ?_)
  have hu := hu_of hr
  have hu64 := hr.units
  refine ⟨_, (pss_mid (ps_set (i := 2) sc_put_factor.nd rfl (Or.inl rfl) (pe_ifExp (pt_val (pe_fld (pv 0) rfl)) (pe_ok (ok_opposite T) (hr.mono (by decide)) rfl T.g_opposite pass0 (pa_cons (pv 1) pa_nil)) (pv 1)))
      (pss_cons (ps_fld (pv 0) pe_bl rfl)
      (pss_one (ps_if (pt_cmpR op_eq (pe_fld (pv 0) rfl) pe_str (nomark _)) (pss_one (ps_fld (pv 0) (pv 2) rfl))
      (pss_one (ps_if (pt_cmpR op_eq (pe_fld (pv 0) rfl) pe_str (nomark _)) (pss_one (ps_fld (pv 0) (pe_ok (ok_times T) (hr.mono (by decide)) rfl T.g_times pass0 (pa_cons (pe_fld (pv 0) rfl) (pa_cons (pv 2) pa_nil))) rfl))
      (pss_cons (ps_expr (pe_ok (ok_need T) (hr.mono (by decide)) rfl T.g_need (L2N.passes_call (L2N.takes_of rfl rfl rfl rfl) fun _ _ _ _ h => h) (pa_cons (pe_cmpR (op_neD hu64) (pv 2) (pe_gref rfl (T.g_NOUGHT)) (nomark _)) (pa_cons (pe_fld (pv 0) rfl) (pa_cons (pe_gint rfl (T.int_BY_NOUGHT)) pa_nil)))))
      (pss_one (ps_fld (pv 0) (pe_ok (ok_over T) (hr.mono (by decide)) rfl T.g_over pass0 (pa_cons (pe_fld (pv 0) rfl) (pa_cons (pv 2) pa_nil))) rfl))))))))), ?_⟩
  obtain ⟨_, b, rfl, x, p, q, n, m, rfl, ⟨dx, tv, mv, hx, ht, hm⟩, hb, vp, rq, bq, le, hQ⟩ := h
  have ro := Qu.own_red (p := p) rq
  have bo := Qu.own_bd (p := p) bq
  obtain ⟨ba, bb, bta, btb, bl⟩ := vp.bd
  refine ⟨fun σ H' => Same H H' ∧ ∃ v, σ = [some (.ref x), some b, some v] ∧ FrV K H' v (Qu.own p q), ?_, ?_⟩
  · refine ⟨_, rfl, _, _, _, _, _, rfl, hx, T.c_Level, T.n_Level_is_turned, rfl, _, rfl, ?_⟩
    cases htu : p.turned with
    | true =>
      have eo : Qu.own p q = Qu.opp q := by unfold Qu.own; rw [htu]; exact if_pos rfl
      rw [eo]
      exact iteT ⟨_, rfl, _, rfl, q, hb, fun v H' s fv => ⟨s, v, rfl, fv⟩⟩
    | false =>
      have eo : Qu.own p q = q := by unfold Qu.own; rw [htu]; exact if_neg Bool.false_ne_true
      rw [eo]
      exact iteF ⟨_, rfl, Same.refl H, b, rfl, hb⟩
  · rintro σ H1 ⟨s1, v, rfl, fv⟩
    have hx1 := s1 _ _ hx
    refine ⟨_, rfl, _, _, _, _, rfl, hx1, T.c_Level, T.n_Level_is_turned, Nat.le_of_ble_eq_true rfl, ?_⟩
    have f2 : Fm (fun y => y = x) H (upd H1 x (.ins (cLevel K) dx (lvF tv p.minus mv p.op p.col false))) := s1.fm.put hx1 id (.inr rfl)
    have hx2 : upd H1 x (.ins (cLevel K) dx (lvF tv p.minus mv p.op p.col false)) x = some (.ins (cLevel K) dx (lvF tv p.minus mv p.op p.col false)) := upd_same
    have fv2 : FrV K (upd H1 x (.ins (cLevel K) dx (lvF tv p.minus mv p.op p.col false))) v (Qu.own p q) := ((Fm.refl H1).put (S := fun y => y = x) hx1 id (.inr rfl)).frv fv
    rw [show putF "is_turned" (V.bl false) (lvF tv p.minus mv p.op p.col p.turned) = lvF tv p.minus mv p.op p.col false from rfl]
    generalize upd H1 x (.ins (cLevel K) dx (lvF tv p.minus mv p.op p.col false)) = H2 at *
    have e1 : decide (V.str (sT (opS p.op)) = V.str "") = decide (p.op = 0) := by
      rw [w_nil, dec_str]
      unfold opS
      by_cases c : p.op = 0
      · rw [if_pos c, decide_eq_true c]; rfl
      · rw [if_neg c, decide_eq_false c]; rfl
    refine ⟨_, rfl, _, _, _, _, _, rfl, hx2, T.c_Level, T.n_Level_operator, rfl, rfl, _, rfl, ?_⟩
    rw [e1]
    unfold Qu.put at hQ
    refine ite2 (fun c => ?_) (fun c => ?_)
    · rw [if_pos (of_decide_eq_true c)] at hQ
      refine ⟨_, rfl, _, rfl, _, _, _, _, rfl, hx2, T.c_Level, T.n_Level_term, Nat.le_of_ble_eq_true rfl, ?_⟩
      refine hQ _ (f2.put hx2 id (.inr rfl)) ⟨p.op, p.col, dx, tv, v, upd_same, ?_, ?_⟩
      · exact (f2.put hx2 id (.inr rfl)).frv ht
      · exact ((Fm.refl H2).put (S := fun y => y = x) hx2 id (.inr rfl)).frv fv2
    · have op0 : p.op ≠ 0 := fun z => c (decide_eq_true z)
      rw [if_neg op0] at hQ
      have e2 : decide (V.str (sT (opS p.op)) = V.str "*") = decide (p.op = 42) := by
        rw [w_star, dec_str]
        unfold opS
        rw [if_neg op0]
        by_cases c : p.op = 42
        · rw [c]; rfl
        · rw [decide_eq_false c]
          exact decide_eq_false fun z => c (by injection z)
      have two : Two K H2 mv v p.term (Qu.own p q) bb m := ⟨f2.frv hm, fv2, vp.rm, ro, btb op0, bo, by omega⟩
      have step : ∀ (v' : V) (H3 : Hp) (tm : Fr), Same H2 H3 → FrV K H3 v' tm → (∀ H', Fm (fun y => y = x) H H' → TpV K H' x ⟨p.total, p.minus, tm⟩ → Q .non H') → Q .non (upd H3 x (.ins (cLevel K) dx (lvF tv p.minus v' p.op p.col false))) := fun v' H3 tm s3 fv3 hq => by
        have hx3 := s3 _ _ hx2
        have f3 : Fm (fun y => y = x) H H3 := f2.trans s3.fm
        refine hq _ (f3.put hx3 id (.inr rfl)) ⟨p.op, p.col, dx, tv, v', upd_same, ?_, ?_⟩
        · exact (f3.put hx3 id (.inr rfl)).frv ht
        · exact ((Fm.refl H3).put (S := fun y => y = x) hx3 id (.inr rfl)).frv fv3
      refine ⟨_, rfl, _, _, _, _, _, rfl, hx2, T.c_Level, T.n_Level_operator, rfl, rfl, _, rfl, ?_⟩
      rw [e2]
      refine ite2 (fun c => ?_) (fun c => ?_)
      · rw [if_pos (of_decide_eq_true c)] at hQ
        refine ⟨_, rfl, _, _, _, _, _, rfl, hx2, T.c_Level, T.n_Level_term, rfl, _, rfl, _, _, rfl, _, _, _, _, two, fun v' H3 s3 fv3 => ?_⟩
        have hx3 := s3 _ _ hx2
        exact ⟨_, rfl, _, _, _, _, rfl, hx3, T.c_Level, T.n_Level_term, Nat.le_of_ble_eq_true rfl, step v' H3 _ s3 fv3 hQ⟩
      · rw [if_neg (fun z => c (decide_eq_true z))] at hQ
        obtain ⟨av, rfl, hv⟩ := id fv2
        refine ⟨_, rfl, _, _, dp2 hv, dp2 (T.t_NOUGHT H2), shaped2 _ _, shaped2 _ _, _, rfl, _, _, _, _, _, rfl, hx2, T.c_Level, T.n_Level_column, rfl, _, _, _, rfl, !decide (Qu.own p q = Lrx1.zero), ⟨p.col, 6⟩, congrArg V.bl (ne_nought ro), rfl, rfl, fun z => ?_, fun z => ?_⟩
        · have nz : ¬ Qu.own p q = Lrx1.zero := by simpa using z
          rw [if_neg nz] at hQ
          refine ⟨_, rfl, _, _, _, _, _, rfl, hx2, T.c_Level, T.n_Level_term, rfl, _, rfl, _, _, rfl, _, _, _, _, two, fun y => nz ((Qu.red_zero_iff ro).mpr y), fun v' H3 s3 fv3 => ?_⟩
          have hx3 := s3 _ _ hx2
          exact ⟨_, rfl, _, _, _, _, rfl, hx3, T.c_Level, T.n_Level_term, Nat.le_of_ble_eq_true rfl, step v' H3 _ s3 fv3 hQ⟩
        · have zz : Qu.own p q = Lrx1.zero := by simpa using z
          rw [if_pos zz] at hQ
          exact ((show LineF K _ H E _ from hQ).then f2.frm).sub fun _ z => z.elim
/-! ### constants -/
def CoV (K : PySem.W.Frag) (H : Hp) (a : Addr) (cs : List (Lrx9.Name × Fr)) : Prop := ∃ kvs, H a = some (.dK kvs) ∧ Paired (fun (kv : Key × V) (c : Lrx9.Name × Fr) => kv.1 = Sum.inr (sT c.1) ∧ FrV K H kv.2 c.2) kvs cs
theorem CoV.fm {S : Addr → Prop} {K : PySem.W.Frag} {H H' : Hp} {a : Addr} {cs : List (Lrx9.Name × Fr)} (h : CoV K H a cs) (e : Fm S H H') (n : ¬ S a) : CoV K H' a cs := by
  obtain ⟨kvs, h1, h2⟩ := h
  exact ⟨kvs, e.st _ _ h1 fun s => absurd s n, paired_imp (fun _ _ z => ⟨z.1, e.frv z.2⟩) h2⟩
theorem co_find {K : PySem.W.Frag} {H : Hp} {n : List Nat} : ∀ {kvs : List (Key × V)} {cs : List (Lrx9.Name × Fr)}, Paired (fun (kv : Key × V) (c : Lrx9.Name × Fr) => kv.1 = Sum.inr (sT c.1) ∧ FrV K H kv.2 c.2) kvs cs →
    (valV kvs (Sum.inr (sT n)) = none ∧ ((cs.find? fun e => e.1 == n).map fun e => e.2) = none) ∨ ∃ v q, valV kvs (Sum.inr (sT n)) = some v ∧ ((cs.find? fun e => e.1 == n).map fun e => e.2) = some q ∧ FrV K H v q
  | [], [], .nil => .inl ⟨rfl, rfl⟩
  | kv :: kvs, c :: cs, .cons h r => by
    by_cases e : c.1 = n
    · refine .inr ⟨kv.2, c.2, ?_, ?_, h.2⟩
      · exact valV_pos (by rw [h.1, e])
      · rw [List.find?_cons, show (c.1 == n) = true from beq_iff_eq.mpr e]
        rfl
    · have e1 : valV (kv :: kvs) (Sum.inr (sT n)) = valV kvs (Sum.inr (sT n)) := valV_neg (fun z => e (by rw [h.1] at z; injection z with z; exact sT_inj z))
      have e2 : (c.1 == n) = false := beq_eq_false_iff_ne.mpr e
      rw [e1, List.find?_cons, e2]
      exact co_find r
theorem kw_words : (["let", "class", "station", "serve", "arrive", "route", "leave", "population", "fifo", "lifo", "share", "delay", "servers", "capacity"] : List Str) = Lrx9.keywords.map sT := by decide +kernel
theorem kw_map {K : PySem.W.Frag} : t_KEYWORDS.map (He.Dv.v K) = Lrx9.keywords.map fun w => V.str (sT w) := by
  show (["let", "class", "station", "serve", "arrive", "route", "leave", "population", "fifo", "lifo", "share", "delay", "servers", "capacity"] : List Str).map V.str = _
  rw [kw_words, List.map_map]
  rfl
theorem in_words {x : List Nat} : ∀ l : List (List Nat), inV (.str (sT x)) (l.map fun w => V.str (sT w)) = l.contains x
  | [] => rfl
  | b :: r => by
    have ih := in_words (x := x) r
    unfold inV at ih ⊢
    rw [List.map_cons, List.any_cons, List.contains_cons, ih]
    congr 1
    show (sT b == sT x) = (x == b)
    rw [Bool.eq_iff_iff, beq_iff_eq, beq_iff_eq]
    exact ⟨fun h => (sT_inj h).symm, fun h => by rw [h]⟩
theorem flat_words : ∀ l : List (List Nat), (l.map fun w => V.str (sT w)).all flatV = true
  | [] => rfl
  | b :: r => by
    rw [List.map_cons, List.all_cons, flat_words r]
    rfl
def numAt (M : Lrx9.Model) (rest : List Lrx9.Token) (len : Nat) : Except Lrx9.Fault Fr := match rest with
  | [] => .error ⟨len, 3⟩
  | tk :: _ => Qu.operand M tk
def sp_take_number (K : PySem.W.Frag) : Sp := sp2 fun a b H Q E => ∃ (r : RD) (M : Lrx9.Model) (ca : Addr), a = .ref r.a ∧ b = .ref ca ∧ RdO K H r ∧ CoV K H ca M.constants ∧
  match numAt M r.rest r.len with
  | .error f => LineS K H E f
  | .ok q => ∀ v H', H' = goH K H (r.go 1) → FrV K H' v q → Q v H'
theorem ok_take_number {w : World} {K : PySem.W.Frag} {mg : Str → Option Value} {base : Heap} (T : Txt w K mg) : OKF w K mg base (L2N.CX prog w) 5 d_take_number ["reader", "constants"] (sp_take_number K) := by
  refine okf_mk (k := 4) T 48 rfl sc_take_number rfl rfl (fun _ _ _ _ _ _ us hl => match us, hl with | [_, _], _ => rfl) sp2_len (fun f cdv A outer s H vs Q E hr h => ?_)
  have hu := hu_of hr
  have hu64 := hr.units
  refine ⟨_, (pss_mid (ps_if (pt_cmpR op_ge (pe_fld (pv 0) rfl) (pe_callB call_len_seq rfl T.f_len boot_len (pa_cons (pe_fld (pv 0) rfl) pa_nil)) (nomark _)) (pss_one (ps_expr (pe_ok (ok_unexpected T) (hr.mono (by decide)) rfl T.g_unexpected (L2N.passes_call (L2N.takes_of rfl rfl rfl rfl) fun _ _ _ _ h => h) (pa_cons (pv 0) pa_nil))))
      pss_nil)
      (pss_cons (ps_asg (pe_ix ix_list (pe_fld (pv 0) rfl) (pe_fld (pv 0) rfl) (fun _ _ => rfl)) (pg_tup rfl (pgs_cons (pg_name (i := 2) sc_take_number.nd rfl (Or.inl rfl)) (pgs_cons (pg_name (i := 3) sc_take_number.nd rfl (Or.inl rfl)) (pgs_cons (pg_name (i := 4) sc_take_number.nd rfl (Or.inl rfl)) pgs_nil)))))
      (pss_cons (ps_expr (pe_ok (ok_need T) (hr.mono (by decide)) rfl T.g_need (L2N.passes_call (L2N.takes_of rfl rfl rfl rfl) fun _ _ _ _ h => h) (pa_cons (pe_or (pe_cmpR op_eq (pv 2) (pe_gint rfl (T.int_NUMBER)) (nomark _)) (pe_one (pe_and (pe_cmpR op_eq (pv 2) (pe_gint rfl (T.int_NAME)) (nomark _)) (pe_one (pe_cmpR (op_notIn_seq) (pv 4) (pe_gref rfl (T.g_KEYWORDS)) (by rfl)))))) (pa_cons (pv 3) (pa_cons (pe_gint rfl (T.int_UNEXPECTED)) pa_nil)))))
      (pss_cons (ps_expr (pe_ok (ok_need T) (hr.mono (by decide)) rfl T.g_need (L2N.passes_call (L2N.takes_of rfl rfl rfl rfl) fun _ _ _ _ h => h) (pa_cons (pe_or (pe_cmpR op_eq (pv 2) (pe_gint rfl (T.int_NUMBER)) (nomark _)) (pe_one (pe_cmp (pc_din hu (pv 4) (pv 1))))) (pa_cons (pv 3) (pa_cons (pe_gint rfl (T.int_UNKNOWN)) pa_nil)))))
      (pss_cons (ps_fldaug (pv 0) pe_int in_add)
      (pss_one (ps_ret (pe_ifExp (pt_cmpR op_eq (pv 2) (pe_gint rfl (T.int_NUMBER)) (nomark _)) (pv 4) (pe_dget hu (pv 1) (pv 4) (fun _ _ => rfl)))))))))), ?_⟩
  obtain ⟨_, _, rfl, r, M, ca, rfl, rfl, R, ⟨kvs, hc, hp⟩, hQ⟩ := h
  refine ⟨fun σ H' => σ = [some (.ref r.a), some (.ref ca), none, none, none] ∧ H' = H ∧ r.rest ≠ [], ?_, ?_⟩
  · refine ⟨_, rfl, _, _, _, _, _, rfl, R.ob, T.c_Reader, T.n_Reader_at, rfl, _, rfl, _, _, _, _, _, rfl, R.ob, T.c_Reader, T.n_Reader_tokens, rfl, _, _, rfl, .inl (SqL.of R.li), _, _, rfl, rfl, _, rfl, ?_⟩
    cases hr : r.rest with
    | nil =>
      rw [hr] at hQ
      have := R.nil hr
      rw [decide_eq_true (by omega)]
      exact iteT ⟨_, rfl, _, rfl, r, rfl, R, by rw [hr]; exact hQ⟩
    | cons t m =>
      obtain ⟨b, x, lt, -⟩ := R.cons hr
      rw [decide_eq_false (by omega)]
      exact iteF ⟨rfl, rfl, List.cons_ne_nil _ _⟩
  · rintro σ H' ⟨rfl, rfl, ne⟩
    cases hr : r.rest with
    | nil => exact absurd hr ne
    | cons t m =>
      obtain ⟨b, x, lt, ha, hs, hf, hx, -⟩ := R.cons hr
      rw [hr] at hQ
      simp only [numAt, Qu.operand] at hQ
      refine ⟨_, rfl, _, _, _, _, _, rfl, R.ob, T.c_Reader, T.n_Reader_tokens, rfl, _, rfl, _, _, _, _, _, rfl, R.ob, T.c_Reader, T.n_Reader_at, rfl, _, _, _, _, rfl, rfl, SqL.of R.li, ha, b, _, rfl, hs, rfl, _, _, rfl, _, _, rfl, _, _, rfl, rfl, _, rfl, rfl, _, rfl, ?_⟩
      have e1 : decide (V.int (t.kind : Int) = V.int 1) = decide (t.kind = 1) := by rw [show (1 : Int) = ((1 : Nat) : Int) from rfl, dec_ieq, Bool.beq_eq_decide_eq]
      rw [e1]
      by_cases k1 : t.kind = 1
      · rw [if_pos k1] at hQ
        rw [decide_eq_true k1]
        refine iteT ⟨_, rfl, _, _, _, rfl, true, ⟨t.column, 3⟩, rfl, rfl, rfl, fun _ => ?_, fun z => Bool.noConfusion z⟩
        refine ⟨_, rfl, rfl, _, rfl, ?_⟩
        rw [e1, decide_eq_true k1]
        refine iteT ⟨_, rfl, _, _, _, rfl, true, ⟨t.column, 4⟩, rfl, rfl, rfl, fun _ => ?_, fun z => Bool.noConfusion z⟩
        refine ⟨_, rfl, _, _, _, _, _, rfl, R.ob, T.c_Reader, T.n_Reader_at, rfl, _, _, rfl, rfl, _, _, R.ob, Nat.le_of_ble_eq_true rfl, _, rfl, rfl, _, rfl, ?_⟩
        rw [e1, decide_eq_true k1]
        exact iteT ⟨_, rfl, hQ x _ rfl ((go_fm (r' := r.go 1) R rfl).frv (hf k1))⟩
      · rw [if_neg k1] at hQ
        rw [decide_eq_false k1]
        have hx' := hx k1
        subst hx'
        refine iteF ⟨_, rfl, rfl, _, rfl, ?_⟩
        have e0 : decide (V.int (t.kind : Int) = V.int 0) = decide (t.kind = 0) := by rw [show (0 : Int) = ((0 : Nat) : Int) from rfl, dec_ieq, Bool.beq_eq_decide_eq]
        rw [e0]
        by_cases k0 : t.kind = 0
        · rw [if_pos k0] at hQ
          rw [decide_eq_true k0]
          refine iteT ⟨_, rfl, _, _, rfl, .inr (T.t_KEYWORDS H'), rfl, by rw [kw_map]; exact flat_words _, ?_⟩
          show tCons _ _ _ _ _
          refine ⟨_, rfl, _, _, _, rfl, !Lrx9.keywords.contains t.text, ⟨t.column, 3⟩, ?_, rfl, rfl, fun z => ?_, fun z => ?_⟩
          · refine congrArg V.bl ?_
            rw [if_pos rfl, kw_map, in_words]
          · have z' : Lrx9.keywords.contains t.text = false := by simpa using z
            rw [if_neg (by rw [z']; exact Bool.false_ne_true)] at hQ
            refine ⟨_, rfl, rfl, _, rfl, ?_⟩
            rw [e1, decide_eq_false k1]
            refine iteF ⟨_, rfl, _, rfl, _, _, rfl, DGet.k (k := Sum.inr (sT t.text)) hc, ?_⟩
            unfold Lrx9.constantOf at hQ
            rcases co_find (n := t.text) hp with ⟨n1, n2⟩ | ⟨v, q, n1, n2, n3⟩
            · rw [n2] at hQ
              rw [n1]
              exact ⟨_, rfl, _, _, _, rfl, false, ⟨t.column, 4⟩, rfl, rfl, rfl, fun z => Bool.noConfusion z, fun _ => hQ⟩
            · rw [n2] at hQ
              rw [n1]
              refine ⟨_, rfl, _, _, _, rfl, true, ⟨t.column, 4⟩, rfl, rfl, rfl, fun _ => ?_, fun z => Bool.noConfusion z⟩
              refine ⟨_, rfl, _, _, _, _, _, rfl, R.ob, T.c_Reader, T.n_Reader_at, rfl, _, _, rfl, rfl, _, _, R.ob, Nat.le_of_ble_eq_true rfl, _, rfl, rfl, _, rfl, ?_⟩
              rw [e1, decide_eq_false k1]
              have g := go_fm (r' := r.go 1) R rfl
              have hc2 : goH K H' (r.go 1) ca = some (.dK kvs) := g.st _ _ hc fun z => by
                subst z
                rw [R.ob] at hc
                cases hc
              refine iteF ⟨_, rfl, _, rfl, _, v, rfl, ?_, hQ v _ rfl (g.frv n3)⟩
              have dg := DGet.k (k := Sum.inr (sT t.text)) hc2
              rw [n1] at dg
              exact dg
          · have z' : Lrx9.keywords.contains t.text = true := by simpa using z
            rw [if_pos z'] at hQ
            exact hQ
        · rw [if_neg k0] at hQ
          rw [decide_eq_false k0]
          exact iteF ⟨_, rfl, _, _, _, rfl, false, ⟨t.column, 3⟩, rfl, rfl, rfl, fun z => Bool.noConfusion z, fun _ => hQ⟩
end Q
set_option Elab.async false
set_option linter.all false
set_option maxRecDepth 100000
set_option maxHeartbeats 4000000
namespace Q
open PySem PySem.Spec PyProof.Rows L2
/-! ### levels in a list -/
def lst (xs : List Addr) : List V := xs.reverse.map V.ref
theorem lst_len (xs : List Addr) : (lst xs).length = xs.length := by simp [lst]
theorem lst_top (x : Addr) (xs : List Addr) : lst (x :: xs) = lst xs ++ [.ref x] := by simp [lst]
theorem lst_last {x : Addr} {xs : List Addr} : atI (lst (x :: xs)) (-1) = some (.ref x) := by
  rw [lst_top]
  exact atI_last _ _
/-- the levels: those below the top one wait -/
structure Stk (K : PySem.W.Frag) (H : Hp) (L : Addr) (xs : List Addr) (ps : List Qu.Pend) : Prop where
  li : H L = some (.lst (lst xs))
  nd : xs.Nodup
  ob : Paired (LvV K H) xs ps
structure TStk (K : PySem.W.Frag) (H : Hp) (L : Addr) (x : Addr) (xs : List Addr) (t : Qu.Top) (ps : List Qu.Pend) : Prop where
  li : H L = some (.lst (lst (x :: xs)))
  nd : (x :: xs).Nodup
  tp : TpV K H x t
  ob : Paired (LvV K H) xs ps
def SS (r : RD) (L : Addr) (xs : List Addr) : Addr → Prop := fun b => b = r.a ∨ b = L ∨ b ∈ xs
theorem paired_fm {S : Addr → Prop} {K : PySem.W.Frag} {H H' : Hp} (e : Fm S H H') : ∀ {xs : List Addr} {ps : List Qu.Pend}, (∀ y ∈ xs, ¬ S y) → Paired (LvV K H) xs ps → Paired (LvV K H') xs ps
  | _, _, _, .nil => .nil
  | _, _, n, .cons h r => .cons (h.fm e (n _ List.mem_cons_self)) (paired_fm e (fun y hy => n y (List.mem_cons_of_mem _ hy)) r)
theorem paired_mem {K : PySem.W.Frag} {H : Hp} : ∀ {xs : List Addr} {ps : List Qu.Pend}, Paired (LvV K H) xs ps → ∀ y ∈ xs, ∃ p, LvV K H y p
  | _, _, .cons h r, y, hy => by
    rcases List.mem_cons.mp hy with rfl | hy
    · exact ⟨_, h⟩
    · exact paired_mem r y hy
theorem LvV.nl {K : PySem.W.Frag} {H : Hp} {y : Addr} {p : Qu.Pend} (h : LvV K H y p) {L : Addr} {xs : List V} (e : H L = some (.lst xs)) : y ≠ L := fun z => by
  obtain ⟨dx, tv, mv, h1, -⟩ := h
  rw [z, e] at h1
  cases h1
theorem LvV.nr {K : PySem.W.Frag} {H : Hp} {y : Addr} {p : Qu.Pend} (h : LvV K H y p) {r : RD} (e : RdO K H r) : y ≠ r.a := fun z => by
  obtain ⟨dx, tv, mv, h1, -⟩ := h
  rw [z, e.ob] at h1
  have h2 := Option.some.inj h1
  injection h2 with _ _ h3
  have h4 := congrArg List.length h3
  cases h4
/-- as LineF.then, where new things may change too -/
theorem LineF.go {K : PySem.W.Frag} {S S2 : Addr → Prop} {H H1 : Hp} {E : XK} {f : Lrx9.Fault} (h : LineF K S H E f) (s : Fm S H H1) (k : ∀ b, S2 b → S b ∨ H b = none) : LineF K S2 H1 E f := fun d H' s' e => h d H' (fun b o eb n => s' b o (s.st b o eb fun z => absurd z n) fun z => (k b z).elim n fun y => by rw [y] at eb; cases eb) e
theorem RdO.nl {K : PySem.W.Frag} {H : Hp} {r : RD} (R : RdO K H r) {L : Addr} {xs : List V} (e : H L = some (.lst xs)) : r.a ≠ L := fun z => by
  have := R.ob
  rw [z, e] at this
  cases this
theorem LvV.some {K : PySem.W.Frag} {H : Hp} {y : Addr} {p : Qu.Pend} (h : LvV K H y p) : H y ≠ none := fun z => by
  obtain ⟨dx, tv, mv, h1, -⟩ := h
  rw [h1] at z
  cases z
theorem vp_one {p : Qu.Pend} {n : Nat} (h : Qu.VP p n) : 1 ≤ n := by
  obtain ⟨a, b, ha, -, l⟩ := h.bd
  have := ha.2
  have := h.rt.pos
  cases a with
  | zero => omega
  | succ a => omega
theorem sb_len : ∀ {s : List Qu.Pend} {n : Nat}, Qu.SB s n → s.length ≤ n
  | [], n, _ => Nat.zero_le _
  | p :: s, n, ⟨a, b, x, y, l⟩ => by
    have := sb_len y
    have := vp_one x
    rw [List.length_cons]
    omega
theorem pa_len {p : Qu.Pend} {s : List Qu.Pend} {rest : List Lrx9.Token} (h : Qu.PA p s rest) : s.length ≤ 6000 := by
  obtain ⟨a, b, x, y, l⟩ := h
  have := sb_len y
  omega
theorem symAt_pos {tk : Lrx9.Token} {m : List Lrx9.Token} {l : List Nat} {b : Nat} (h : Qu.isSy tk b = true) (k : b ∈ l) : symAt (tk :: m) l = [b] := by
  unfold Qu.isSy at h
  rw [Bool.and_eq_true, beq_iff_eq, beq_iff_eq] at h
  show (if tk.kind = 2 ∧ (l.any fun b => tk.text == [b]) = true then tk.text else []) = _
  rw [if_pos ⟨h.1, List.any_eq_true.mpr ⟨b, k, beq_iff_eq.mpr h.2⟩⟩]
  exact h.2
theorem symAt_neg {tk : Lrx9.Token} {m : List Lrx9.Token} {l : List Nat} (h : ∀ b ∈ l, Qu.isSy tk b = false) : symAt (tk :: m) l = [] := by
  unfold symAt
  refine if_neg fun z => ?_
  obtain ⟨b, hb, hx⟩ := List.any_eq_true.mp z.2
  have := h b hb
  unfold Qu.isSy at this
  rw [z.1, hx] at this
  cases this
/-- a new level -/
theorem lv_new {K : PySem.W.Frag} {mg : Str → Option Value} {w : World} (T : Txt w K mg) {H : Hp} {y dy : Addr} (h : H y = some (.ins (cLevel K) dy (lv0 K))) : LvV K H y Qu.newP :=
  ⟨dy, _, _, h, ⟨_, rfl, T.t_NOUGHT H⟩, ⟨_, rfl, T.t_NOUGHT H⟩⟩
def sp_take_factor (K : PySem.W.Frag) : Sp := sp3 fun a b c H Q E => ∃ (r : RD) (M : Lrx9.Model) (ca L x : Addr) (xs : List Addr) (p : Qu.Pend) (s : List Qu.Pend), a = .ref r.a ∧ b = .ref ca ∧ c = .ref L ∧ r.l ≠ L ∧ RdO K H r ∧ CoV K H ca M.constants ∧
  Stk K H L (x :: xs) (p :: s) ∧ Qu.Fine M r.rest ∧ Qu.PA p s r.rest ∧
  match Qu.aRun M r.len r.rest p s with
  | .error f => LineF K (SS r L (x :: xs)) H E f
  | .ok (t, s', m) => ∀ H' x' xs' n, Fm (SS r L (x :: xs)) H H' → TStk K H' L x' xs' t s' → RdO K H' (r.go n) → (r.go n).rest = m → (∀ y ∈ x' :: xs', y ∈ x :: xs ∨ H y = none) → Q .non H'
/-- the turn's word -/
def WFac (K : PySem.W.Frag) (H : Hp) (r : RD) (M : Lrx9.Model) (ca L x : Addr) (xs : List Addr) (p : Qu.Pend) (s : List Qu.Pend) (m : Nat) (σ : L2.St) (H' : Hp) : Prop :=
  ∃ (n : Nat) (x' : Addr) (xs' : List Addr) (p' : Qu.Pend) (s' : List Qu.Pend), σ = [some (.ref r.a), some (.ref ca), some (.ref L)] ∧ m = r.ts.length - (r.k + n) ∧ Fm (SS r L (x :: xs)) H H' ∧ RdO K H' (r.go n) ∧
    Stk K H' L (x' :: xs') (p' :: s') ∧ (∀ y ∈ x' :: xs', y ∈ x :: xs ∨ H y = none) ∧ Qu.aRun M r.len (r.go n).rest p' s' = Qu.aRun M r.len r.rest p s ∧ Qu.PA p' s' (r.go n).rest ∧ Qu.Fine M (r.go n).rest
theorem ok_take_factor {w : World} {K : PySem.W.Frag} {mg : Str → Option Value} {base : Heap} (T : Txt w K mg) : OKF w K mg base (L2N.CX prog w) 6 d_take_factor ["reader", "constants", "levels"] (sp_take_factor K) := by
  refine okf_mk (k := 5) T 49 rfl sc_take_factor rfl rfl (fun _ _ _ _ _ _ us hl => match us, hl with | [_, _, _], _ => rfl) sp3_len (fun f cdv A outer s H vs Q E hr h => ?_)
  refine ⟨_, (pss_cons (ps_while (L2.passes_of rfl) (pt_cmpR op_ne (pe_ok (ok_symbol_next T) (hr.mono (by decide)) rfl T.g_symbol_next pass0 (pa_cons (pv 0) (pa_cons (pe_tup (pa_cons pe_str (pa_cons pe_str pa_nil))) pa_nil))) pe_str (nomark _))
      (pss_one (ps_if (pt_val (pe_ok (ok_take_if T) (hr.mono (by decide)) rfl T.g_take_if pass0 (pa_cons (pv 0) (pa_cons (pe_gint rfl (T.int_SYMBOL)) (pa_cons pe_str pa_nil))))) (pss_one (ps_fld (pe_ix ix_list (pv 2) (pe_un un_neg pe_int) (fun _ _ => rfl)) (pe_not (pe_fld (pe_ix ix_list (pv 2) (pe_un un_neg pe_int) (fun _ _ => rfl)) rfl)) rfl))
      (pss_cons (ps_fldaug (pv 0) pe_int in_add)
      (pss_one (ps_expr (pe_bm PySem.F.plainAttrs_list PySem.F.slot_list_append PySem.F.type_list_append mt_append (pv 2) (pa_cons (pe_mk0 (ok_Level_init T) T.k_Level (hr.mono (by decide)) rfl T.g_Level pass0) pa_nil))))))))
      (pss_one (ps_expr (pe_ok (ok_put_factor T) (hr.mono (by decide)) rfl T.g_put_factor (L2N.passes_call (L2N.takes_of rfl rfl rfl rfl) fun _ _ _ _ h => h) (pa_cons (pe_ix ix_list (pv 2) (pe_un un_neg pe_int) (fun _ _ => rfl)) (pa_cons (pe_ok (ok_take_number T) (hr.mono (by decide)) rfl T.g_take_number (L2N.passes_call (L2N.takes_of rfl rfl rfl rfl) fun _ _ _ _ h => h) (pa_cons (pv 0) (pa_cons (pv 1) pa_nil))) pa_nil)))))), ?_⟩
  obtain ⟨_, _, _, rfl, r, M, ca, L, x, xs, p, s, rfl, rfl, rfl, nlL, R, C, SK, FI, PO, hQ⟩ := h
  have hca : ¬ SS r L (x :: xs) ca := by
    obtain ⟨kvs, hc, -⟩ := C
    rintro (z | z | z)
    · rw [z, R.ob] at hc; cases hc
    · rw [z, SK.li] at hc; cases hc
    · obtain ⟨p', dx, tv, mv, h1, -⟩ := paired_mem SK.ob ca z
      rw [h1] at hc; cases hc
  refine ⟨WFac K H r M ca L x xs p s, ⟨_, 0, x, xs, p, s, rfl, rfl, Fm.refl H, R, SK, fun y hy => .inl hy, rfl, PO, FI⟩, ?_⟩
  rintro m σ H1 ⟨n, x', xs', p', s', rfl, rfl, F1, R1, SK1, own, run, po, fi⟩
  refine ⟨_, rfl, by show 2 ≤ sizeLine; decide, fun q hq => ⟨_, _, rfl, r.go n, q, [45, 40], rfl, R1.same (Same.new hq), rfl, SqT.of (by rw [upd_same, w_less, w_open]; rfl), rfl, _, rfl, ?_⟩⟩
  have sq : Same H1 (upd H1 q (.tup [.str "-", .str "("])) := Same.new hq
  generalize upd H1 q (.tup [.str "-", .str "("]) = H2 at *
  have F2 : Fm (SS r L (x :: xs)) H H2 := F1.trans sq.fm
  have R2 := R1.same sq
  have li2 : H2 L = some (.lst (lst (x' :: xs'))) := sq _ _ SK1.li
  have ob2 : Paired (LvV K H2) (x' :: xs') (p' :: s') := paired_fm (S := fun _ => False) sq.fm (fun _ _ z => z) SK1.ob
  have C2 : CoV K H2 ca M.constants := C.fm F2 hca
  have nla : ∀ y ∈ x' :: xs', y ≠ L ∧ y ≠ r.a ∧ H2 y ≠ none := fun y hy => by
    obtain ⟨py, hp⟩ := paired_mem ob2 y hy
    exact ⟨hp.nl li2, hp.nr (r := r.go n) R2, hp.some⟩
  rw [w_nil, dec_str]
  cases hr : (r.go n).rest with
  | nil =>
    rw [hr] at run
    rw [← run] at hQ
    refine iteF ?_
    refine ⟨_, rfl, _, rfl, _, _, _, _, rfl, rfl, SqL.of li2, lst_last, _, rfl, _, rfl, _, _, rfl, r.go n, M, ca, rfl, rfl, R2, C2, ?_⟩
    rw [hr]
    exact ((show LineF K _ H E _ from hQ).then F2.frm).sub fun _ z => z.elim
  | cons tk mr =>
    obtain ⟨b, u, lt, -, -, -, -, rest1, le1⟩ := R2.cons hr
    rw [hr] at run po fi
    have top : ∃ dx tv mv, H2 x' = some (.ins (cLevel K) dx (lvF tv p'.minus mv p'.op p'.col p'.turned)) ∧ FrV K H2 tv p'.total ∧ FrV K H2 mv p'.term := by
      cases ob2 with
      | cons h _ => exact h
    obtain ⟨dx, tv, mv, hx2, ht, hm⟩ := top
    have low : Paired (LvV K H2) xs' s' := by
      cases ob2 with
      | cons _ h => exact h
    have nd := List.nodup_cons.mp SK1.nd
    have inS : ∀ y ∈ x' :: xs', H y = none ∨ SS r L (x :: xs) y := fun y hy => (own y hy).elim (fun z => .inr (.inr (.inr z))) .inl
    cases c1 : Qu.isSy tk 45 with
    | true =>
      rw [symAt_pos c1 (by decide)]
      refine iteT ⟨fun σ' H'' => ∃ m', m' < r.ts.length - (r.k + n) ∧ WFac K H r M ca L x xs p s m' σ' H'', fun _ _ z => z, ?_⟩
      refine ⟨_, rfl, _, _, _, rfl, r.go n, 2, [45], rfl, R2, rfl, by decide, congrArg V.str w_less, ?_⟩
      rw [hr, show isAt (tk :: mr) 2 [45] = true from c1, if_pos rfl]
      intro H3 e3
      refine ⟨_, rfl, iteT ?_⟩
      have F3 : Fm (fun b => b = r.a) H2 H3 := e3 ▸ go_fm (K := K) (r := r.go n) (r' := (r.go n).go 1) R2 rfl
      have R3 : RdO K H3 ((r.go n).go 1) := e3 ▸ R2.go le1
      clear e3
      have li3 : H3 L = some (.lst (lst (x' :: xs'))) := F3.st _ _ li2 fun z => absurd z.symm (R2.nl li2)
      have hx3 := F3.st _ _ hx2 fun z => absurd z (nla x' List.mem_cons_self).2.1
      have F03 : Fm (SS r L (x :: xs)) H H3 := F2.trans (F3.imp fun y z => .inl z)
      refine ⟨_, rfl, _, rfl, _, _, _, _, rfl, rfl, SqL.of li3, lst_last, _, _, _, _, _, rfl, hx3, T.c_Level, T.n_Level_is_turned, rfl, _, rfl, _, rfl, _, rfl, _, _, _, _, rfl, rfl, SqL.of li3, lst_last, _, _, _, _, rfl, hx3, T.c_Level, T.n_Level_is_turned, Nat.le_of_ble_eq_true rfl, ?_⟩
      have F4 : Fm (fun y => y = x') H3 (upd H3 x' (.ins (cLevel K) dx (lvF tv p'.minus mv p'.op p'.col (!p'.turned)))) := (Fm.refl H3).put hx3 id (.inr rfl)
      have F34 : Fm (SS r L (x :: xs)) H (upd H3 x' (.ins (cLevel K) dx (lvF tv p'.minus mv p'.op p'.col (!p'.turned)))) := F03.put hx3 id (inS x' List.mem_cons_self)
      refine ⟨_, ?_, n + 1, x', xs', { p' with turned := !p'.turned }, s', rfl, rfl, F34, ?_, ⟨?_, SK1.nd, ?_⟩, own, ?_, ?_, ?_⟩
      · have : (r.go n).k = r.k + n := rfl
        have : (r.go n).ts = r.ts := rfl
        rw [this] at le1
        omega
      · have := R3.fm F4 (fun z => (nla x' List.mem_cons_self).2.1 z.symm) (fun z => by
          have h1 := R3.li
          have : ((r.go n).go 1).l = x' := z
          rw [this, hx3] at h1
          cases h1)
        exact this
      · exact F4.st _ _ li3 fun z => absurd z.symm (nla x' List.mem_cons_self).1
      · refine .cons ⟨dx, tv, mv, upd_same, F4.frv (F3.frv ht), F4.frv (F3.frv hm)⟩ ?_
        refine paired_fm F4 (fun y hy z => nd.1 (by rw [← z]; exact hy)) ?_
        exact paired_fm F3 (fun y hy z => (nla y (List.mem_cons_of_mem _ hy)).2.1 z) low
      · show Qu.aRun M r.len ((r.go n).go 1).rest _ _ = _
        rw [rest1, ← run]
        simp [Qu.aRun, c1]
      · show Qu.PA _ _ ((r.go n).go 1).rest
        rw [rest1]
        exact Qu.pa_turn po
      · show Qu.Fine _ ((r.go n).go 1).rest
        rw [rest1]
        exact fi.tail
    | false =>
      cases c2 : Qu.isSy tk 40 with
      | true =>
        rw [symAt_pos c2 (by decide)]
        refine iteT ⟨fun σ' H'' => ∃ m', m' < r.ts.length - (r.k + n) ∧ WFac K H r M ca L x xs p s m' σ' H'', fun _ _ z => z, ?_⟩
        refine ⟨_, rfl, _, _, _, rfl, r.go n, 2, [45], rfl, R2, rfl, by decide, congrArg V.str w_less, ?_⟩
        rw [hr, show isAt (tk :: mr) 2 [45] = false from c1, if_neg Bool.false_ne_true]
        intro H2' e2
        rw [show H2' = H2 from e2.trans R2.go0]
        refine ⟨_, rfl, iteF ?_⟩
        refine ⟨_, rfl, _, _, _, _, _, rfl, R2.ob, T.c_Reader, T.n_Reader_at, rfl, _, _, rfl, rfl, _, _, R2.ob, Nat.le_of_ble_eq_true rfl, ?_⟩
        have F3 : Fm (fun b => b = r.a) H2 (upd H2 r.a (.ins (cReader K) (r.go n).dx (putF "at" (.int (((r.go n).k : Int) + 1)) (rdF (r.go n).l (r.go n).k (r.go n).len)))) := go_fm (r := r.go n) (r' := (r.go n).go 1) R2 rfl
        have R3 : RdO K (upd H2 r.a (.ins (cReader K) (r.go n).dx (putF "at" (.int (((r.go n).k : Int) + 1)) (rdF (r.go n).l (r.go n).k (r.go n).len)))) ((r.go n).go 1) := R2.go le1
        generalize upd H2 r.a (.ins (cReader K) (r.go n).dx (putF "at" (.int (((r.go n).k : Int) + 1)) (rdF (r.go n).l (r.go n).k (r.go n).len))) = H3 at *
        have li3 : H3 L = some (.lst (lst (x' :: xs'))) := F3.st _ _ li2 fun z => absurd z.symm (R2.nl li2)
        have F03 : Fm (SS r L (x :: xs)) H H3 := F2.trans (F3.imp fun y z => .inl z)
        have ob3 : Paired (LvV K H3) (x' :: xs') (p' :: s') := paired_fm F3 (fun y hy z => (nla y hy).2.1 z) ob2
        refine ⟨_, rfl, .inl ⟨rfl, _, .inl (.inl li3)⟩, fun y dy hy hdy ne => ⟨_, rfl, y, dy, rfl, upd_same, fun H4 e4 => ⟨rfl, ?_⟩⟩⟩
        rw [upd_upd] at e4
        have sd : Same H3 (upd H3 dy (.own y)) := Same.new hdy
        have hy' : upd H3 dy (.own y) y = none := by rw [upd_ne (Ne.symm ne)]; exact hy
        have s4 : Same H3 H4 := e4 ▸ sd.to hy'
        have hy4 : H4 y = some (.ins (cLevel K) dy (lv0 K)) := e4 ▸ upd_same
        clear e4
        have li4 := s4 _ _ li3
        have pl := pa_len po
        have pl2 : xs'.length = s'.length := paired_len low
        refine ⟨L, _, _, rfl, rfl, li4, ?_, ?_⟩
        · rw [lst_len, List.length_cons, pl2]
          exact Nat.lt_of_le_of_lt (show _ ≤ 6001 by omega) (by decide)
        rw [← lst_top]
        have F5 : Fm (fun z => z = L) H4 (upd H4 L (.lst (lst (y :: x' :: xs')))) := (Fm.refl H4).put li4 id (.inr rfl)
        have F05 : Fm (SS r L (x :: xs)) H (upd H4 L (.lst (lst (y :: x' :: xs')))) := (F03.trans s4.fm).put li4 id (.inr (.inr (.inl rfl)))
        have yL : y ≠ L := fun z => by rw [z, li3] at hy; cases hy
        refine ⟨_, ?_, n + 1, y, x' :: xs', Qu.newP, p' :: s', rfl, rfl, F05, ?_, ⟨upd_same, ?_, ?_⟩, ?_, ?_, ?_, ?_⟩
        · have : (r.go n).k = r.k + n := rfl
          have : (r.go n).ts = r.ts := rfl
          rw [this] at le1
          omega
        · exact (R3.same s4).fm F5 (fun z => (R3.same s4).nl li4 z) nlL
        · exact List.nodup_cons.mpr ⟨fun z => by
            obtain ⟨py, hp⟩ := paired_mem ob3 y z
            exact hp.some hy, SK1.nd⟩
        · refine .cons (lv_new T ((F5.st _ _ hy4 fun z => absurd z yL))) ?_
          exact paired_fm F5 (fun z hz e => (nla z hz).1 e) (paired_fm (S := fun _ => False) s4.fm (fun _ _ z => z) ob3)
        · intro z hz
          rcases List.mem_cons.mp hz with rfl | hz
          · exact .inr (F03.no _ hy)
          · exact own z hz
        · show Qu.aRun M r.len ((r.go n).go 1).rest _ _ = _
          rw [rest1, ← run]
          simp [Qu.aRun, c1, c2]
        · show Qu.PA _ _ ((r.go n).go 1).rest
          rw [rest1]
          exact Qu.pa_open po
        · show Qu.Fine _ ((r.go n).go 1).rest
          rw [rest1]
          exact fi.tail
      | false =>
        rw [symAt_neg (by
          intro b hb
          rcases List.mem_cons.mp hb with rfl | hb
          · exact c1
          · rcases List.mem_cons.mp hb with rfl | hb
            · exact c2
            · cases hb)]
        rw [← run] at hQ
        simp only [Qu.aRun, c1, c2, Bool.false_eq_true, if_false] at hQ
        refine iteF ⟨_, rfl, _, rfl, _, _, _, _, rfl, rfl, SqL.of li2, lst_last, _, rfl, _, rfl, _, _, rfl, r.go n, M, ca, rfl, rfl, R2, C2, ?_⟩
        rw [hr]
        show (match Qu.operand M tk with | .error f => _ | .ok q => _)
        cases ho : Qu.operand M tk with
        | error f =>
          rw [ho] at hQ
          exact ((show LineF K _ H E _ from hQ).then F2.frm).sub fun _ z => z.elim
        | ok v =>
          rw [ho] at hQ
          simp only at hQ ⊢
          intro vv H3 e3 fv
          have F3 : Fm (fun b => b = r.a) H2 H3 := e3 ▸ go_fm (K := K) (r := r.go n) (r' := (r.go n).go 1) R2 rfl
          have R3 : RdO K H3 ((r.go n).go 1) := e3 ▸ R2.go le1
          clear e3
          have F03 : Fm (SS r L (x :: xs)) H H3 := F2.trans (F3.imp fun y z => .inl z)
          have ob3 : Paired (LvV K H3) (x' :: xs') (p' :: s') := paired_fm F3 (fun y hy z => (nla y hy).2.1 z) ob2
          have li3 : H3 L = some (.lst (lst (x' :: xs'))) := F3.st _ _ li2 fun z => absurd z.symm (R2.nl li2)
          obtain ⟨ov, bv⟩ := Qu.operand_fine fi ho
          have top3 : LvV K H3 x' p' := by
            cases ob3 with
            | cons h _ => exact h
          have low3 : Paired (LvV K H3) xs' s' := by
            cases ob3 with
            | cons _ h => exact h
          obtain ⟨pa, pb, pv, ps, pl⟩ := po
          refine ⟨_, _, rfl, x', p', v, pa, 60, rfl, top3, fv, pv, ov, bv, by rw [List.length_cons] at pl; omega, ?_⟩
          cases hp : Qu.put p' v with
          | error f =>
            rw [hp] at hQ
            refine (show LineF K (SS r L (x :: xs)) H E _ from hQ).go F03 fun y z => ?_
            subst z
            exact (inS y List.mem_cons_self).elim .inr .inl
          | ok t =>
            rw [hp] at hQ
            simp only at hQ ⊢
            intro H4 F4 tp
            refine hQ H4 x' xs' (n + 1) (F03.then F4 fun y z => ?_) ⟨?_, SK1.nd, tp, ?_⟩ ?_ rest1 own
            · subst z
              exact (inS y List.mem_cons_self).elim .inr .inl
            · exact F4.st _ _ li3 fun z => absurd z.symm (nla x' List.mem_cons_self).1
            · exact paired_fm F4 (fun y hy z => nd.1 (by rw [← z]; exact hy)) low3
            · exact R3.fm F4 (fun z => (nla x' List.mem_cons_self).2.1 z.symm) (fun z => by
                have h1 := R3.li
                have : ((r.go n).go 1).l = x' := z
                obtain ⟨dx3, tv3, mv3, hx3, -⟩ := top3
                rw [this, hx3] at h1
                cases h1)
end Q
set_option Elab.async false
set_option linter.all false
set_option maxRecDepth 100000
set_option maxHeartbeats 4000000
namespace Qu
open Lrx9 (Token Fault Model)
theorem aRun_pt {M : Model} {len : Nat} : ∀ {rest : List Token} {p : Pend} {s s' : List Pend} {t : Top} {m : List Token}, PA p s rest → Fine M rest → aRun M len rest p s = .ok (t, s', m) → PT t s' m ∧ Fine M m
  | [], p, s, s', t, m, _, _, h => by simp [aRun] at h
  | tk :: r, p, s, s', t, m, po, fi, h => by
    simp only [aRun] at h
    split at h
    · exact aRun_pt (pa_turn po) fi.tail h
    · split at h
      · exact aRun_pt (pa_open po) fi.tail h
      · cases ho : operand M tk with
        | error f => rw [ho] at h; cases h
        | ok v =>
          rw [ho] at h
          simp only at h
          cases hp : put p v with
          | error f => rw [hp] at h; cases h
          | ok t2 =>
            rw [hp] at h
            cases h
            obtain ⟨a, b⟩ := operand_fine fi ho
            exact ⟨pt_put po a b hp, fi.tail⟩
theorem cRun_pt {M : Model} : ∀ {rest : List Token} {t t' : Top} {s s' : List Pend} {m : List Token}, PT t s rest → Fine M rest → cRun rest t s = .ok (t', s', m) → PT t' s' m ∧ Fine M m
  | [], t, t', [], s', m, po, fi, h => by simp [cRun] at h; obtain ⟨rfl, rfl, rfl⟩ := h; exact ⟨po, fi⟩
  | [], t, t', p :: s, s', m, po, fi, h => by simp [cRun] at h; obtain ⟨rfl, rfl, rfl⟩ := h; exact ⟨po, fi⟩
  | tk :: r0, t, t', [], s', m, po, fi, h => by simp [cRun] at h; obtain ⟨rfl, rfl, rfl⟩ := h; exact ⟨po, fi⟩
  | tk :: r0, t, t', p :: s, s', m, po, fi, h => by
    simp only [cRun] at h
    split at h
    · cases hp : put p t.value with
      | error f => rw [hp] at h; cases h
      | ok t2 =>
        rw [hp] at h
        exact cRun_pt (pt_close po hp) fi.tail h
    · simp only [Except.ok.injEq, Prod.mk.injEq] at h
      obtain ⟨rfl, rfl, rfl⟩ := h
      exact ⟨po, fi⟩
end Qu
namespace Q
open PySem PySem.Spec PyProof.Rows L2
theorem go_go (r : RD) (a b : Nat) : (r.go a).go b = r.go (a + b) := by
  unfold RD.go
  rw [Nat.add_assoc]
def sp_take_closing (K : PySem.W.Frag) : Sp := sp2 fun a b H Q E => ∃ (r : RD) (L x : Addr) (xs : List Addr) (t : Qu.Top) (s : List Qu.Pend), a = .ref r.a ∧ b = .ref L ∧ r.l ≠ L ∧ RdO K H r ∧
  TStk K H L x xs t s ∧ Qu.PT t s r.rest ∧
  match Qu.cRun r.rest t s with
  | .error f => LineF K (SS r L (x :: xs)) H E f
  | .ok (t', s', m) => ∀ H' x' xs' n, Fm (SS r L (x :: xs)) H H' → TStk K H' L x' xs' t' s' → RdO K H' (r.go n) → (r.go n).rest = m → (∀ y ∈ x' :: xs', y ∈ x :: xs) → Q .non H'
def WClo (K : PySem.W.Frag) (H : Hp) (r : RD) (L x : Addr) (xs : List Addr) (t : Qu.Top) (s : List Qu.Pend) (m : Nat) (σ : L2.St) (H' : Hp) : Prop :=
  ∃ (n : Nat) (x' : Addr) (xs' : List Addr) (t' : Qu.Top) (s' : List Qu.Pend) (v3 : Option V), σ = [some (.ref r.a), some (.ref L), v3] ∧ m = r.ts.length - (r.k + n) ∧ Fm (SS r L (x :: xs)) H H' ∧ RdO K H' (r.go n) ∧
    TStk K H' L x' xs' t' s' ∧ (∀ y ∈ x' :: xs', y ∈ x :: xs) ∧ Qu.cRun (r.go n).rest t' s' = Qu.cRun r.rest t s ∧ Qu.PT t' s' (r.go n).rest
theorem TpV.lv {K : PySem.W.Frag} {H : Hp} {x : Addr} {t : Qu.Top} (h : TpV K H x t) : ∃ p, LvV K H x p := let ⟨op, col, h⟩ := h; ⟨_, h⟩
theorem ok_take_closing {w : World} {K : PySem.W.Frag} {mg : Str → Option Value} {base : Heap} (T : Txt w K mg) : OKF w K mg base (L2N.CX prog w) 5 d_take_closing ["reader", "levels"] (sp_take_closing K) := by
  refine okf_mk (k := 4) T 50 rfl sc_take_closing rfl rfl (fun _ _ _ _ _ _ us hl => match us, hl with | [_, _], _ => rfl) sp2_len (fun f cdv A outer s H vs Q E hr h => ?_)
  refine ⟨_, (pss_one (ps_while (L2.passes_of rfl) (PW.pt (pw_and (pt_cmpR op_gt (pe_callB call_len_seq rfl T.f_len boot_len (pa_cons (pv 1) pa_nil)) pe_int (nomark _)) (pw_and1 (pt_val (pe_ok (ok_take_if T) (hr.mono (by decide)) rfl T.g_take_if pass0 (pa_cons (pv 0) (pa_cons (pe_gint rfl (T.int_SYMBOL)) (pa_cons pe_str pa_nil))))))))
      (pss_cons (ps_set (i := 2) sc_take_closing.nd rfl (Or.inl rfl) (pe_ok (ok_whole_of T) (hr.mono (by decide)) rfl T.g_whole_of pass0 (pa_cons (pe_bm0 PySem.F.plainAttrs_list PySem.F.slot_list_pop PySem.F.type_list_pop mt_pop (pv 1)) pa_nil)))
      (pss_one (ps_expr (pe_ok (ok_put_factor T) (hr.mono (by decide)) rfl T.g_put_factor (L2N.passes_call (L2N.takes_of rfl rfl rfl rfl) fun _ _ _ _ h => h) (pa_cons (pe_ix ix_list (pv 1) (pe_un un_neg pe_int) (fun _ _ => rfl)) (pa_cons (pv 2) pa_nil)))))))), ?_⟩
  obtain ⟨_, _, rfl, r, L, x, xs, t, s, rfl, rfl, nlL, R, TS, PO, hQ⟩ := h
  refine ⟨WClo K H r L x xs t s, ⟨_, 0, x, xs, t, s, none, rfl, rfl, Fm.refl H, R, TS, fun y hy => hy, rfl, PO⟩, ?_⟩
  rintro m σ H1 ⟨n, x', xs', t', s', v3, rfl, rfl, F1, R1, TS1, own, run, po⟩
  refine ⟨_, rfl, _, _, rfl, .inl (SqL.of TS1.li), _, _, rfl, rfl, _, rfl, ?_⟩
  rw [lst_len, List.length_cons]
  have pl := paired_len TS1.ob
  have finish : Qu.cRun (r.go n).rest t' s' = .ok (t', s', (r.go n).rest) → Q .non H1 := fun e => by
    rw [← run, e] at hQ
    exact hQ H1 x' xs' n F1 TS1 R1 rfl own
  cases hs : s' with
  | nil =>
    rw [hs] at pl
    rw [decide_eq_false (by rw [show xs'.length = 0 from pl]; decide)]
    refine iteF (iteF (finish ?_))
    rw [hs]
    cases (r.go n).rest <;> rfl
  | cons p0 s0 =>
    subst hs
    cases hxs : xs' with
    | nil => rw [hxs] at pl; cases pl
    | cons x0 xs0 =>
      subst hxs
      rw [decide_eq_true (by rw [List.length_cons]; omega)]
      refine iteT ⟨_, rfl, _, _, _, rfl, r.go n, 2, [41], rfl, R1, rfl, by decide, congrArg V.str w_close, fun H2 e2 => ⟨_, rfl, ?_⟩⟩
      cases hr : (r.go n).rest with
      | nil =>
        refine iteF ?_
        rw [hr] at e2
        rw [show H2 = H1 from e2.trans R1.go0]
        refine finish ?_
        rw [hr]
        rfl
      | cons tk mr =>
        obtain ⟨b, u, lt, -, -, -, -, rest1, le1⟩ := R1.cons hr
        rw [show isAt (tk :: mr) 2 [41] = Qu.isSy tk 41 from rfl]
        rw [hr, show isAt (tk :: mr) 2 [41] = Qu.isSy tk 41 from rfl] at e2
        cases c1 : Qu.isSy tk 41 with
        | false =>
          refine iteF ?_
          rw [c1, if_neg Bool.false_ne_true] at e2
          rw [show H2 = H1 from e2.trans R1.go0]
          refine finish ?_
          rw [hr]
          simp [Qu.cRun, c1]
        | true =>
          rw [c1, if_pos rfl] at e2
          have F3 : Fm (fun b => b = r.a) H1 H2 := e2 ▸ go_fm (K := K) (r := r.go n) (r' := (r.go n).go 1) R1 rfl
          have R3 : RdO K H2 ((r.go n).go 1) := e2 ▸ R1.go le1
          clear e2
          rw [hr] at run po
          have nla : ∀ y ∈ x' :: x0 :: xs0, y ≠ L ∧ y ≠ r.a := fun y hy => by
            rcases List.mem_cons.mp hy with rfl | hy
            · obtain ⟨p', hp⟩ := TS1.tp.lv
              exact ⟨hp.nl TS1.li, hp.nr (r := r.go n) R1⟩
            · obtain ⟨py, hp⟩ := paired_mem TS1.ob y hy
              exact ⟨hp.nl TS1.li, hp.nr (r := r.go n) R1⟩
          have li3 : H2 L = some (.lst (lst (x' :: x0 :: xs0))) := F3.st _ _ TS1.li fun z => absurd z.symm (R1.nl TS1.li)
          have tp3 : TpV K H2 x' t' := TS1.tp.fm F3 (nla x' List.mem_cons_self).2
          have ob3 : Paired (LvV K H2) (x0 :: xs0) (p0 :: s0) := paired_fm F3 (fun y hy z => (nla y (List.mem_cons_of_mem _ hy)).2 z) TS1.ob
          obtain ⟨pa, pb, pv, ⟨pc, pd, pp, pss, pl3⟩, pl2⟩ := id po
          have val := Qu.value_ok pv
          refine iteT ⟨fun σ' H'' => ∃ m', m' < r.ts.length - (r.k + n) ∧ WClo K H r L x xs t s m' σ' H'', fun _ _ z => z, ?_⟩
          refine ⟨_, rfl, .inl ⟨rfl, _, SqL.of li3⟩, L, _, .ref x', rfl, rfl, li3, ?_, ?_⟩
          · rw [lst_top, List.length_append]
            simp
          have dl : (lst (x' :: x0 :: xs0)).dropLast = lst (x0 :: xs0) := by
            rw [lst_top]
            simp
          rw [dl]
          have F4 : Fm (fun y => y = L) H2 (upd H2 L (.lst (lst (x0 :: xs0)))) := (Fm.refl H2).put li3 id (.inr rfl)
          have F04 : Fm (SS r L (x :: xs)) H (upd H2 L (.lst (lst (x0 :: xs0)))) := (F1.trans (F3.imp fun y z => .inl z)).put li3 id (.inr (.inr (.inl rfl)))
          have li4 : upd H2 L (.lst (lst (x0 :: xs0))) L = some (.lst (lst (x0 :: xs0))) := upd_same
          generalize upd H2 L (.lst (lst (x0 :: xs0))) = H4 at *
          have tp4 := tp3.fm F4 (nla x' List.mem_cons_self).1
          have ob4 : Paired (LvV K H4) (x0 :: xs0) (p0 :: s0) := paired_fm F4 (fun y hy z => (nla y (List.mem_cons_of_mem _ hy)).1 z) ob3
          have R4 := R3.fm F4 (fun z => R3.nl li3 z) nlL
          refine ⟨_, rfl, x', t', pa, rfl, tp4, pv, by omega, fun v H5 s5 fv => ?_⟩
          have li5 := s5 _ _ li4
          have R5 := R4.same s5
          have ob5 : Paired (LvV K H5) (x0 :: xs0) (p0 :: s0) := paired_fm (S := fun _ => False) s5.fm (fun _ _ z => z) ob4
          have top5 : LvV K H5 x0 p0 := by
            cases ob5 with
            | cons h _ => exact h
          have low5 : Paired (LvV K H5) xs0 s0 := by
            cases ob5 with
            | cons _ h => exact h
          have F05 := F04.trans s5.fm
          refine ⟨_, rfl, _, rfl, _, _, _, _, rfl, rfl, SqL.of li5, lst_last, _, rfl, _, _, rfl, x0, p0, t'.value, pc, pa + 1, rfl, top5, fv, pp, val.1, val.2, by rw [List.length_cons] at pl2; omega, ?_⟩
          have nd := List.nodup_cons.mp TS1.nd
          have nd2 := List.nodup_cons.mp nd.2
          cases hp : Qu.put p0 t'.value with
          | error f =>
            rw [← run] at hQ
            simp only [Qu.cRun, c1, if_true, hp] at hQ
            refine (show LineF K (SS r L (x :: xs)) H E _ from hQ).go F05 fun y z => ?_
            subst z
            exact .inl (.inr (.inr (own y (List.mem_cons_of_mem _ List.mem_cons_self))))
          | ok t2 =>
            simp only
            intro H6 F6 tp6
            refine ⟨_, ?_, n + 1, x0, xs0, t2, s0, some v, rfl, rfl, F05.then F6 fun y z => ?_, ?_, ⟨?_, nd.2, tp6, ?_⟩, fun y hy => own y (List.mem_cons_of_mem _ hy), ?_, ?_⟩
            · have : (r.go n).k = r.k + n := rfl
              have : (r.go n).ts = r.ts := rfl
              rw [this] at le1
              omega
            · subst z
              exact .inl (.inr (.inr (own y (List.mem_cons_of_mem _ List.mem_cons_self))))
            · refine R5.fm F6 (fun z => (nla x0 (List.mem_cons_of_mem _ List.mem_cons_self)).2 z.symm) (fun z => ?_)
              obtain ⟨dx3, tv3, mv3, hx3, -⟩ := top5
              have h1 := R5.li
              have e : ((r.go n).go 1).l = x0 := z
              rw [e, hx3] at h1
              cases h1
            · exact F6.st _ _ li5 fun z => absurd z.symm (nla x0 (List.mem_cons_of_mem _ List.mem_cons_self)).1
            · exact paired_fm F6 (fun y hy z => nd2.1 (by rw [← z]; exact hy)) low5
            · show Qu.cRun ((r.go n).go 1).rest _ _ = _
              rw [rest1, ← run]
              simp [Qu.cRun, c1, hp]
            · show Qu.PT _ _ ((r.go n).go 1).rest
              rw [rest1]
              exact Qu.pt_close po hp
def sp_take_operator (K : PySem.W.Frag) : Sp := sp2 fun a b H Q _ => ∃ (r : RD) (L x : Addr) (xs : List Addr) (t : Qu.Top) (n : Nat), a = .ref r.a ∧ b = .ref L ∧ RdO K H r ∧ H L = some (.lst (lst (x :: xs))) ∧ TpV K H x t ∧ Qu.VT t n ∧ n ≤ 7000 ∧
  match Qu.opAt r.rest with
  | none => ∀ H', Same H H' → Q (.bl false) H'
  | some b => ∀ H', Fm (fun y => y = r.a ∨ y = x) H H' → LvV K H' x (Qu.opd t b (Lrx9.columnOf r.rest r.len)) → RdO K H' (r.go 1) → Q (.bl true) H'
theorem opAt_mem {rest : List Lrx9.Token} {b : Nat} (h : Qu.opAt rest = some b) : (b = 43 ∨ b = 45 ∨ b = 42 ∨ b = 47) ∧ symAt rest [43, 45, 42, 47] = [b] ∧ ∃ tk m, rest = tk :: m := by
  cases rest with
  | nil => cases h
  | cons tk m =>
    simp only [Qu.opAt] at h
    split at h
    · rename_i c; cases h; exact ⟨by simp, symAt_pos c (by decide), _, _, rfl⟩
    · split at h
      · rename_i c; cases h; exact ⟨by simp, symAt_pos c (by decide), _, _, rfl⟩
      · split at h
        · rename_i c; cases h; exact ⟨by simp, symAt_pos c (by decide), _, _, rfl⟩
        · split at h
          · rename_i c; cases h; exact ⟨by simp, symAt_pos c (by decide), _, _, rfl⟩
          · cases h
theorem opAt_none {rest : List Lrx9.Token} (h : Qu.opAt rest = none) : symAt rest [43, 45, 42, 47] = [] := by
  cases rest with
  | nil => rfl
  | cons tk m =>
    simp only [Qu.opAt] at h
    split at h
    · cases h
    · rename_i c0
      split at h
      · cases h
      · rename_i c1
        split at h
        · cases h
        · rename_i c2
          split at h
          · cases h
          · rename_i c3
            refine symAt_neg fun b hb => ?_
            simp only [List.mem_cons, List.not_mem_nil, or_false] at hb
            rcases hb with rfl | rfl | rfl | rfl
            · simpa using c0
            · simpa using c1
            · simpa using c2
            · simpa using c3
theorem ok_take_operator {w : World} {K : PySem.W.Frag} {mg : Str → Option Value} {base : Heap} (T : Txt w K mg) : OKF w K mg base (CX0) 5 d_take_operator ["reader", "levels"] (sp_take_operator K) := by
  refine okf_mk (k := 4) T 51 rfl sc_take_operator rfl rfl (fun _ _ _ _ _ _ us hl => match us, hl with | [_, _], _ => rfl) sp2_len (fun f cdv A outer s H vs Q E hr h => ?_)
  refine ⟨_, (PSs.nox (pss_cons (ps_par (i := 2) (j := 3) rfl sc_take_operator.nd rfl rfl (by decide) rfl rfl (pa_cons (pe_ix ix_list (pv 1) (pe_un un_neg pe_int) (fun _ _ => rfl)) (pa_cons (pe_ok (ok_symbol_next T) (hr.mono (by decide)) rfl T.g_symbol_next pass0 (pa_cons (pv 0) (pa_cons (pe_tup (pa_cons pe_str (pa_cons pe_str (pa_cons pe_str (pa_cons pe_str pa_nil))))) pa_nil))) pa_nil)) (by rfl))
      (pss_cons (ps_if (pt_cmpR op_eq (pv 3) pe_str (nomark _)) (pss_one (ps_ret pe_bl))
      pss_nil)
      (pss_cons (ps_fld (pv 2) (pe_ok (ok_column_next T) (hr.mono (by decide)) rfl T.g_column_next pass0 (pa_cons (pv 0) pa_nil)) rfl)
      (pss_cons (ps_fldaug (pv 0) pe_int in_add)
      (pss_cons (ps_if (pt_cmpR (op_in_seq) (pv 3) (pe_tup (pa_cons pe_str (pa_cons pe_str pa_nil))) (by rfl)) (pss_one (ps_fld (pv 2) (pv 3) rfl))
      (pss_cons (ps_fld (pv 2) (pe_ok (ok_whole_of T) (hr.mono (by decide)) rfl T.g_whole_of pass0 (pa_cons (pv 2) pa_nil)) rfl)
      (pss_one (ps_asg (pe_tup (pa_cons (pv 3) (pa_cons pe_str pa_nil))) (pg_tup rfl (pgs_cons (pg_fld (pv 2)) (pgs_cons (pg_fld (pv 2)) pgs_nil)))))))
      (pss_one (ps_ret pe_bl)))))))), ?_⟩
  obtain ⟨_, _, rfl, r, L, x, xs, t, n, rfl, rfl, R, li, tp, vt, hn, hQ⟩ := h
  refine ⟨_, rfl, _, rfl, _, _, _, _, rfl, rfl, SqL.of li, lst_last, _, rfl, by show 4 ≤ sizeLine; decide, fun q hq => ⟨_, _, rfl, r, q, [43, 45, 42, 47], rfl, R.same (Same.new hq), rfl, SqT.of (by rw [upd_same, w_plus, w_less, w_star, w_over]; rfl), _, _, rfl, _, rfl, rfl, _, rfl, ?_⟩⟩
  have sq : Same H (upd H q (.tup [.str "+", .str "-", .str "*", .str "/"])) := Same.new hq
  generalize upd H q (.tup [.str "+", .str "-", .str "*", .str "/"]) = H2 at *
  have R2 := R.same sq
  have tp2 : TpV K H2 x t := tp.fm (S := fun _ => False) sq.fm id
  have li2 := sq _ _ li
  rw [w_nil, dec_str]
  cases ho : Qu.opAt r.rest with
  | none =>
    rw [ho] at hQ
    rw [opAt_none ho]
    exact iteT (hQ _ sq)
  | some b =>
    rw [ho] at hQ
    simp only at hQ
    obtain ⟨hb, hs, tk, m, hr⟩ := opAt_mem ho
    rw [hs]
    refine iteF ?_
    obtain ⟨-, -, -, -, -, -, -, rest1, le1⟩ := R2.cons hr
    obtain ⟨op0, col0, dx, tv, mv, hx2, ht2, hm2⟩ := tp2
    have xr : x ≠ r.a := (show LvV K H2 x _ from ⟨dx, tv, mv, hx2, ht2, hm2⟩).nr R2
    have xL : x ≠ L := (show LvV K H2 x _ from ⟨dx, tv, mv, hx2, ht2, hm2⟩).nl li2
    refine ⟨_, rfl, _, rfl, r, rfl, R2, _, rfl, _, _, _, _, rfl, hx2, T.c_Level, T.n_Level_column, Nat.le_of_ble_eq_true rfl, ?_⟩
    generalize Lrx9.columnOf r.rest r.len = col at *
    rw [show putF "column" (V.int (col : Int)) (lvF tv t.minus mv op0 col0 false) = lvF tv t.minus mv op0 col false from rfl]
    have F3 : Fm (fun y => y = x) H2 (upd H2 x (.ins (cLevel K) dx (lvF tv t.minus mv op0 col false))) := (Fm.refl H2).put hx2 id (.inr rfl)
    have hx3 : upd H2 x (.ins (cLevel K) dx (lvF tv t.minus mv op0 col false)) x = some (.ins (cLevel K) dx (lvF tv t.minus mv op0 col false)) := upd_same
    generalize upd H2 x (.ins (cLevel K) dx (lvF tv t.minus mv op0 col false)) = H3 at *
    have R3 := R2.fm F3 (fun z => xr z.symm) (fun z => by
      have h1 := R2.li
      rw [z, hx2] at h1
      cases h1)
    refine ⟨_, rfl, _, _, _, _, _, rfl, R3.ob, T.c_Reader, T.n_Reader_at, rfl, _, _, rfl, rfl, _, _, R3.ob, Nat.le_of_ble_eq_true rfl, ?_⟩
    have F4 : Fm (fun y => y = r.a) H3 (upd H3 r.a (.ins (cReader K) r.dx (putF "at" (.int ((r.k : Int) + 1)) (rdF r.l r.k r.len)))) := go_fm (r' := r.go 1) R3 rfl
    have R4 : RdO K (upd H3 r.a (.ins (cReader K) r.dx (putF "at" (.int ((r.k : Int) + 1)) (rdF r.l r.k r.len)))) (r.go 1) := R3.go le1
    generalize upd H3 r.a (.ins (cReader K) r.dx (putF "at" (.int ((r.k : Int) + 1)) (rdF r.l r.k r.len))) = H4 at *
    have hx4 := F4.st _ _ hx3 fun z => absurd z xr
    have ht4 := F4.frv (F3.frv ht2)
    have hm4 := F4.frv (F3.frv hm2)
    have F04 : Fm (fun y => y = r.a ∨ y = x) H H4 := (sq.fm.trans (F3.imp fun _ z => .inr z)).trans (F4.imp fun _ z => .inl z)
    refine ⟨_, rfl, by show 2 ≤ sizeLine; decide, fun p hp => ⟨_, _, rfl, .inr (SqT.of upd_same), rfl, rfl, _, rfl, ?_⟩⟩
    have sp : Same H4 (upd H4 p (.tup [.str "*", .str "/"])) := Same.new hp
    generalize upd H4 p (.tup [.str "*", .str "/"]) = H5 at *
    have hx5 := sp _ _ hx4
    have ht5 := ht4.same sp
    have hm5 := hm4.same sp
    have R5 := R4.same sp
    have F05 := F04.trans sp.fm
    show (if (if false = true then _ else inV (.str (sT [b])) [.str "*", .str "/"]) = true then _ else _)
    rw [if_neg Bool.false_ne_true, show ([.str "*", .str "/"] : List V) = ([42, 47] : List Nat).map (fun b => V.str (sT [b])) by rw [w_star, w_over]; rfl, in_syms]
    have xl : ∀ (S : Addr → Prop), (∀ y, S y → y = x) → ¬ S (r.go 1).l := fun S k z => by
      have h1 := R5.li
      rw [k _ z, hx5] at h1
      cases h1
    refine ite2 (fun c => ?_) (fun c => ?_)
    · have c' : b = 42 ∨ b = 47 := by simpa using c
      refine ⟨_, rfl, _, rfl, _, _, _, _, rfl, hx5, T.c_Level, T.n_Level_operator, Nat.le_of_ble_eq_true rfl, ?_⟩
      have e : putF "operator" (V.str (sT [b])) (lvF tv t.minus mv op0 col false) = lvF tv t.minus mv b col false := by
        rcases c' with rfl | rfl <;> rfl
      rw [e]
      have F6 : Fm (fun y => y = x) H5 (upd H5 x (.ins (cLevel K) dx (lvF tv t.minus mv b col false))) := (Fm.refl H5).put hx5 id (.inr rfl)
      refine hQ _ (F05.trans (F6.imp fun _ z => .inr z)) ?_ (R5.fm F6 (fun z => xr z.symm) (xl _ fun _ z => z))
      rw [show Qu.opd t b col = ⟨t.total, t.minus, t.term, b, col, false⟩ from if_pos c']
      exact ⟨dx, tv, mv, upd_same, F6.frv ht5, F6.frv hm5⟩
    · have c' : ¬ (b = 42 ∨ b = 47) := fun z => c (by rcases z with rfl | rfl <;> rfl)
      refine ⟨_, rfl, _, rfl, x, t, n, rfl, ⟨op0, col, dx, tv, mv, hx5, ht5, hm5⟩, vt, hn, fun v H6 s6 fv => ?_⟩
      have hx6 := s6 _ _ hx5
      refine ⟨_, rfl, _, _, _, _, rfl, hx6, T.c_Level, T.n_Level_total, Nat.le_of_ble_eq_true rfl, ?_⟩
      rw [show putF "total" v (lvF tv t.minus mv op0 col false) = lvF v t.minus mv op0 col false from rfl]
      have F7 : Fm (fun y => y = x) H6 (upd H6 x (.ins (cLevel K) dx (lvF v t.minus mv op0 col false))) := (Fm.refl H6).put hx6 id (.inr rfl)
      have hx7 : upd H6 x (.ins (cLevel K) dx (lvF v t.minus mv op0 col false)) x = some (.ins (cLevel K) dx (lvF v t.minus mv op0 col false)) := upd_same
      generalize upd H6 x (.ins (cLevel K) dx (lvF v t.minus mv op0 col false)) = H7 at *
      refine ⟨_, rfl, by show 2 ≤ sizeLine; decide, fun p2 hp2 => ⟨p2, _, rfl, SqT.of upd_same, rfl, ?_⟩⟩
      have s8 : Same H7 (upd H7 p2 (.tup [.str (sT [b]), .str (sT [])])) := Same.new hp2
      generalize upd H7 p2 (.tup [.str (sT [b]), .str (sT [])]) = H8 at *
      have hx8 := s8 _ _ hx7
      refine ⟨_, _, rfl, _, rfl, _, _, _, _, rfl, hx8, T.c_Level, T.n_Level_sign, Nat.le_of_ble_eq_true rfl, _, _, rfl, _, rfl, _, _, _, _, rfl, upd_same, T.c_Level, T.n_Level_operator, Nat.le_of_ble_eq_true rfl, rfl, ?_⟩
      rw [upd_upd]
      have e : putF "operator" (V.str (sT [])) (putF "sign" (V.str (sT [b])) (lvF v t.minus mv op0 col false)) = lvF v (b == 45) mv 0 col false := by
        rcases hb with rfl | rfl | rfl | rfl
        · rfl
        · rfl
        · exact absurd (.inl rfl) c'
        · exact absurd (.inr rfl) c'
      rw [e]
      have F9 : Fm (fun y => y = x) H8 (upd H8 x (.ins (cLevel K) dx (lvF v (b == 45) mv 0 col false))) := (Fm.refl H8).put hx8 id (.inr rfl)
      have F79 := (F7.trans s8.fm).trans F9
      refine hQ _ ((F05.trans s6.fm).trans (F79.imp fun _ z => .inr z)) ?_ ((R5.same s6).fm F79 (fun z => xr z.symm) (xl _ fun _ z => z))
      rw [show Qu.opd t b col = ⟨t.value, b == 45, t.term, 0, col, false⟩ from if_neg c']
      exact ⟨dx, v, mv, upd_same, F79.frv fv, F79.frv (hm5.same s6)⟩
end Q
set_option Elab.async false
set_option linter.all false
set_option maxRecDepth 100000
set_option maxHeartbeats 4000000
namespace Q
open PySem PySem.Spec PyProof.Rows L2
theorem go_zero (r : RD) : r.go 0 = r := rfl
def sp_take_expression (K : PySem.W.Frag) : Sp := sp2 fun a b H Q E => ∃ (r : RD) (M : Lrx9.Model) (ca : Addr), a = .ref r.a ∧ b = .ref ca ∧ RdO K H r ∧ CoV K H ca M.constants ∧ Qu.Fine M r.rest ∧ r.rest.length ≤ r.len ∧
  match Lrx9.evaluate M r.len r.rest with
  | .error f => LineF K (fun y => y = r.a) H E f
  | .ok (q, m) => ∀ v H' n, Fm (fun y => y = r.a) H H' → FrV K H' v q → RdO K H' (r.go n) → (r.go n).rest = m → Qu.Red q → Qu.Bd 6100 q → Q v H'
def WExp (K : PySem.W.Frag) (H : Hp) (r : RD) (M : Lrx9.Model) (ca L : Addr) (m : Nat) (σ : L2.St) (H' : Hp) : Prop :=
  ∃ (n : Nat) (x : Addr) (xs : List Addr) (t : Qu.Top) (s : List Qu.Pend), σ = [some (.ref r.a), some (.ref ca), some (.ref L)] ∧ m = r.ts.length - (r.k + n) ∧ Fm (fun y => y = r.a) H H' ∧ RdO K H' (r.go n) ∧
    TStk K H' L x xs t s ∧ H L = none ∧ (∀ y ∈ x :: xs, H y = none) ∧ Qu.mach M r.len (r.go n).rest (.B t s) = Lrx9.evaluate M r.len r.rest ∧ Qu.PT t s (r.go n).rest ∧ Qu.Closed (r.go n).rest s ∧ Qu.Fine M (r.go n).rest
/-- after the factor and the brackets: the loop's word -/
theorem ss_new {K : PySem.W.Frag} {H : Hp} {r : RD} {n : Nat} {L : Addr} {xs : List Addr} (hL : H L = none) (hx : ∀ y ∈ xs, H y = none) : ∀ b, SS (r.go n) L xs b → b = r.a ∨ H b = none := by
  rintro b (z | z | z)
  · exact .inl z
  · exact .inr (by rw [z]; exact hL)
  · exact .inr (hx b z)
theorem ok_take_expression {w : World} {K : PySem.W.Frag} {mg : Str → Option Value} {base : Heap} (T : Txt w K mg) : OKF w K mg base (L2N.CX prog w) 7 d_take_expression ["reader", "constants"] (sp_take_expression K) := by
  refine okf_mk (k := 6) T 52 rfl sc_take_expression rfl rfl (fun _ _ _ _ _ _ us hl => match us, hl with | [_, _], _ => rfl) sp2_len (fun f cdv A outer s H vs Q E hr h => ?_)
  refine ⟨_, (pss_cons (ps_set (i := 2) sc_take_expression.nd rfl (Or.inl rfl) (pe_lst (pa_cons (pe_mk0 (ok_Level_init T) T.k_Level (hr.mono (by decide)) rfl T.g_Level pass0) pa_nil)))
      (pss_cons (ps_expr (pe_ok (ok_take_factor T) (hr.mono (by decide)) rfl T.g_take_factor (L2N.passes_call (L2N.takes_of rfl rfl rfl rfl) fun _ _ _ _ h => h) (pa_cons (pv 0) (pa_cons (pv 1) (pa_cons (pv 2) pa_nil)))))
      (pss_cons (ps_expr (pe_ok (ok_take_closing T) (hr.mono (by decide)) rfl T.g_take_closing (L2N.passes_call (L2N.takes_of rfl rfl rfl rfl) fun _ _ _ _ h => h) (pa_cons (pv 0) (pa_cons (pv 2) pa_nil))))
      (pss_cons (ps_while (L2.passes_of rfl) (pt_val (pe_ok (ok_take_operator T) (hr.mono (by decide)) rfl T.g_take_operator pass0 (pa_cons (pv 0) (pa_cons (pv 2) pa_nil))))
      (pss_cons (ps_expr (pe_ok (ok_take_factor T) (hr.mono (by decide)) rfl T.g_take_factor (L2N.passes_call (L2N.takes_of rfl rfl rfl rfl) fun _ _ _ _ h => h) (pa_cons (pv 0) (pa_cons (pv 1) (pa_cons (pv 2) pa_nil)))))
      (pss_one (ps_expr (pe_ok (ok_take_closing T) (hr.mono (by decide)) rfl T.g_take_closing (L2N.passes_call (L2N.takes_of rfl rfl rfl rfl) fun _ _ _ _ h => h) (pa_cons (pv 0) (pa_cons (pv 2) pa_nil)))))))
      (pss_cons (ps_if (pt_cmpR op_gt (pe_callB call_len_seq rfl T.f_len boot_len (pa_cons (pv 2) pa_nil)) pe_int (nomark _)) (pss_one (ps_expr (pe_ok (ok_unexpected T) (hr.mono (by decide)) rfl T.g_unexpected (L2N.passes_call (L2N.takes_of rfl rfl rfl rfl) fun _ _ _ _ h => h) (pa_cons (pv 0) pa_nil))))
      pss_nil)
      (pss_one (ps_ret (pe_ok (ok_whole_of T) (hr.mono (by decide)) rfl T.g_whole_of pass0 (pa_cons (pe_ix ix_list (pv 2) pe_int (fun _ _ => rfl)) pa_nil))))))))), ?_⟩
  obtain ⟨_, _, rfl, r, M, ca, rfl, rfl, R, C, FI, hl, hQ⟩ := h
  have eM := Qu.mach_is FI.sound hl
  have nca : ca ≠ r.a := fun z => by
    obtain ⟨kvs, hc, -⟩ := C
    rw [z, R.ob] at hc
    cases hc
  have rz : r.rest.length ≤ 80 := by
    unfold RD.rest
    rw [List.length_drop]
    have := R.sz
    omega
  refine fun y dy hy hdy ne => ⟨_, rfl, y, dy, rfl, upd_same, fun H1 e1 => ⟨rfl, by show 1 ≤ sizeLine; decide, fun L hL => ?_⟩⟩
  rw [upd_upd] at e1
  have hy' : upd H dy (.own y) y = none := by rw [upd_ne (Ne.symm ne)]; exact hy
  have s1 : Same H H1 := e1 ▸ (Same.new hdy).to hy'
  have hy1 : H1 y = some (.ins (cLevel K) dy (lv0 K)) := e1 ▸ upd_same
  clear e1
  have hL0 : H L = none := s1.no _ hL
  have s2 : Same H (upd H1 L (.lst (lst [y]))) := s1.to hL
  have R2 : RdO K (upd H1 L (.lst (lst [y]))) r := R.same s2
  have C2 := C.fm (S := fun _ => False) s2.fm id
  have SK2 : Stk K (upd H1 L (.lst (lst [y]))) L [y] [Qu.newP] := ⟨upd_same, List.nodup_cons.mpr ⟨List.not_mem_nil, List.nodup_nil⟩, .cons (lv_new T (by
    rw [upd_ne (by rintro rfl; rw [hy1] at hL; cases hL)]
    exact hy1)) .nil⟩
  rw [show ([.ref y] : List V) = lst [y] from rfl]
  generalize upd H1 L (.lst (lst [y])) = H2 at *
  have nlL : r.l ≠ L := fun z => by
    have := R.li
    rw [z, hL0] at this
    cases this
  have po := Qu.pa_new rz
  refine ⟨_, rfl, _, rfl, _, rfl, _, _, _, rfl, r, M, ca, L, y, [], Qu.newP, [], rfl, rfl, rfl, nlL, R2, C2, SK2, FI, po, ?_⟩
  have new1 : ∀ z ∈ [y], H z = none := fun z hz => by
    rw [List.mem_singleton.mp hz]
    exact hy
  have ssn := ss_new (K := K) (H := H) (r := r) (n := 0) (L := L) (xs := [y]) hL0 new1
  rw [Qu.mach_a] at eM
  cases ea : Qu.aRun M r.len r.rest Qu.newP [] with
  | error f =>
    rw [ea] at eM
    rw [← eM] at hQ
    exact (show LineF K (fun y => y = r.a) H E f from hQ).go s2.fm ssn
  | ok y1 =>
    obtain ⟨t1, st1, m1⟩ := y1
    rw [ea] at eM
    simp only [Qu.goB] at eM ⊢
    intro H3 x3 xs3 n3 F3 TS3 R3 er3 own3
    have pt3 := Qu.aRun_pt po FI ea
    have F03 : Fm (fun y => y = r.a) H H3 := (s2.fm (S := fun y => y = r.a)).then F3 ssn
    have new3 : ∀ z ∈ x3 :: xs3, H z = none := fun z hz => (own3 z hz).elim (new1 z) (s2.no z)
    rw [Qu.mach_c] at eM
    refine ⟨_, rfl, _, rfl, _, _, rfl, r.go n3, L, x3, xs3, t1, st1, rfl, rfl, nlL, R3, TS3, by rw [er3]; exact pt3.1, ?_⟩
    rw [er3]
    have ssn3 := ss_new (K := K) (H := H) (r := r) (n := n3) (L := L) (xs := x3 :: xs3) hL0 new3
    cases ec : Qu.cRun m1 t1 st1 with
    | error f =>
      rw [ec] at eM
      rw [← eM] at hQ
      exact (show LineF K (fun y => y = r.a) H E f from hQ).go F03 ssn3
    | ok y2 =>
      obtain ⟨t2, st2, m2⟩ := y2
      rw [ec] at eM
      simp only [Qu.goB] at eM ⊢
      intro H4 x4 xs4 n4 F4 TS4 R4 er4 own4
      rw [go_go] at R4 er4
      have pt4 := Qu.cRun_pt pt3.1 pt3.2 ec
      have cl4 := Qu.cRun_closed ec
      have F04 : Fm (fun y => y = r.a) H H4 := F03.then F4 ssn3
      have new4 : ∀ z ∈ x4 :: xs4, H z = none := fun z hz => new3 z (own4 z hz)
      refine ⟨WExp K H r M ca L, ⟨_, n3 + n4, x4, xs4, t2, st2, rfl, rfl, F04, R4, TS4, hL0, new4, by rw [er4]; exact eM, by rw [er4]; exact pt4.1, by rw [er4]; exact cl4, by rw [er4]; exact pt4.2⟩, ?_⟩
      clear R2 C2 SK2 hL F3 TS3 R3 er3 own3 pt3 F03 new3 ssn3 ec F4 TS4 R4 er4 own4 pt4 cl4 F04 new4 eM ea
      rintro m σ H5 ⟨n, x, xs, t, s, rfl, rfl, F5, R5, TS5, -, new5, eM, pt5, cl5, fi5⟩
      obtain ⟨pa, pb, pv, pss, pl⟩ := id pt5
      refine ⟨_, rfl, _, rfl, _, _, rfl, r.go n, L, x, xs, t, pa, rfl, rfl, R5, TS5.li, TS5.tp, pv, by omega, ?_⟩
      have R5l : (r.go n).l = r.l := rfl
      cases ho : Qu.opAt (r.go n).rest with
      | none =>
        rw [Qu.mach_end ho cl5] at eM
        intro H6 s6
        have pl5 := paired_len TS5.ob
        refine ⟨_, rfl, iteF ⟨_, rfl, _, _, rfl, .inl (SqL.of (s6 _ _ TS5.li)), _, _, rfl, rfl, _, rfl, ?_⟩⟩
        rw [lst_len, List.length_cons]
        have R6 := R5.same s6
        have F6 := F5.trans s6.fm
        cases hs : s with
        | cons p0 s0 =>
          rw [hs, if_neg (List.cons_ne_nil _ _)] at eM
          rw [← eM] at hQ
          rw [hs] at pl5
          rw [decide_eq_true (by rw [show xs.length = s0.length + 1 from pl5]; omega)]
          refine iteT ⟨_, rfl, _, rfl, r.go n, rfl, R6, ?_⟩
          exact ((show LineF K (fun y => y = r.a) H E _ from hQ).then F6.frm).sub fun _ z => z.elim
        | nil =>
          rw [hs, if_pos rfl] at eM
          rw [← eM] at hQ
          rw [hs] at pl5
          have xn : xs = [] := List.eq_nil_of_length_eq_zero pl5
          subst xn
          rw [decide_eq_false (by decide)]
          refine iteF ⟨_, rfl, _, _, _, _, rfl, rfl, SqL.of (s6 _ _ TS5.li), at0, _, rfl, x, t, pa, rfl, TS5.tp.fm (S := fun _ => False) s6.fm id, pv, by omega, fun v H7 s7 fv => ?_⟩
          have vo := Qu.value_ok pv
          exact hQ v H7 n (F6.trans s7.fm) fv (R6.same s7) rfl vo.1 (vo.2.mono (by omega))
      | some b =>
        obtain ⟨hb, -, tk, mr, hr⟩ := opAt_mem ho
        rw [hr] at ho
        rw [hr, Qu.mach_op ho] at eM
        obtain ⟨-, -, -, -, -, -, -, rest1, le1⟩ := R5.cons hr
        simp only
        intro H6 F6 lv6 R6
        rw [hr] at lv6 pt5 fi5
        have R6' : RdO K H6 (r.go (n + 1)) := by rw [← go_go]; exact R6
        have rest1' : (r.go (n + 1)).rest = mr := by rw [← go_go]; exact rest1
        obtain ⟨p5, hp5⟩ := TS5.tp.lv
        have nx : ∀ z ∈ x :: xs, z ≠ r.a := fun z hz => by
          rcases List.mem_cons.mp hz with rfl | hz
          · exact hp5.nr (r := r.go n) R5
          · obtain ⟨py, hp⟩ := paired_mem TS5.ob z hz
            exact hp.nr (r := r.go n) R5
        have F06 : Fm (fun y => y = r.a) H H6 := F5.then F6 fun z k => k.elim .inl fun y => .inr (new5 z (by rw [y]; exact List.mem_cons_self))
        have xLr : r.a ≠ L := (R5.nl TS5.li : (r.go n).a ≠ L)
        have xL : x ≠ L := hp5.nl TS5.li
        have nd := List.nodup_cons.mp TS5.nd
        have li6 : H6 L = some (.lst (lst (x :: xs))) := F6.st _ _ TS5.li fun z => z.elim (fun y => absurd y.symm xLr) fun y => absurd y.symm xL
        have ob6 : Paired (LvV K H6) xs s := paired_fm F6 (fun z hz k => k.elim (nx z (List.mem_cons_of_mem _ hz)) fun y => nd.1 (by rw [← y]; exact hz)) TS5.ob
        have C6 : CoV K H6 ca M.constants := C.fm F06 nca
        have pa6 := Qu.pa_op (b := b) (col := tk.column) pt5
        refine ⟨_, rfl, iteT ⟨fun σ' H'' => ∃ m', m' < r.ts.length - (r.k + n) ∧ WExp K H r M ca L m' σ' H'', fun _ _ z => z, ?_⟩⟩
        refine ⟨_, rfl, _, rfl, _, rfl, _, _, _, rfl, r.go (n + 1), M, ca, L, x, xs, Qu.opd t b tk.column, s, rfl, rfl, rfl, nlL, R6', C6, ⟨li6, TS5.nd, .cons lv6 ob6⟩, by rw [rest1']; exact fi5.tail, by rw [rest1']; exact pa6, ?_⟩
        rw [rest1']
        have ssn6 := ss_new (K := K) (H := H) (r := r) (n := n + 1) (L := L) (xs := x :: xs) hL0 new5
        rw [Qu.mach_a] at eM
        show (match Qu.aRun M r.len mr (Qu.opd t b tk.column) s with | .error f => _ | .ok (t, s', m) => _)
        cases ea : Qu.aRun M r.len mr (Qu.opd t b tk.column) s with
        | error f =>
          rw [ea] at eM
          rw [← eM] at hQ
          exact (show LineF K (fun y => y = r.a) H E f from hQ).go F06 ssn6
        | ok y1 =>
          obtain ⟨t1, st1, m1⟩ := y1
          rw [ea] at eM
          simp only [Qu.goB] at eM ⊢
          intro H7 x7 xs7 n7 F7 TS7 R7 er7 own7
          rw [go_go] at R7 er7
          have pt7 := Qu.aRun_pt pa6 fi5.tail ea
          have F07 : Fm (fun y => y = r.a) H H7 := F06.then F7 ssn6
          have new7 : ∀ z ∈ x7 :: xs7, H z = none := fun z hz => (own7 z hz).elim (new5 z) (F06.no z)
          rw [Qu.mach_c] at eM
          refine ⟨_, rfl, _, rfl, _, _, rfl, r.go (n + 1 + n7), L, x7, xs7, t1, st1, rfl, rfl, nlL, R7, TS7, by rw [er7]; exact pt7.1, ?_⟩
          rw [er7]
          have ssn7 := ss_new (K := K) (H := H) (r := r) (n := n + 1 + n7) (L := L) (xs := x7 :: xs7) hL0 new7
          cases ec : Qu.cRun m1 t1 st1 with
          | error f =>
            rw [ec] at eM
            rw [← eM] at hQ
            exact (show LineF K (fun y => y = r.a) H E f from hQ).go F07 ssn7
          | ok y2 =>
            obtain ⟨t2, st2, m2⟩ := y2
            rw [ec] at eM
            simp only [Qu.goB] at eM ⊢
            intro H8 x8 xs8 n8 F8 TS8 R8 er8 own8
            rw [go_go] at R8 er8
            have pt8 := Qu.cRun_pt pt7.1 pt7.2 ec
            have cl8 := Qu.cRun_closed ec
            refine ⟨_, ?_, n + 1 + n7 + n8, x8, xs8, t2, st2, rfl, rfl, F07.then F8 ssn7, R8, TS8, hL0, fun z hz => new7 z (own8 z hz), by rw [er8]; exact eM, by rw [er8]; exact pt8.1, by rw [er8]; exact cl8, by rw [er8]; exact pt8.2⟩
            have : (r.go n).k = r.k + n := rfl
            have : (r.go n).ts = r.ts := rfl
            rw [this] at le1
            omega
end Q
set_option Elab.async false
set_option linter.all false
set_option maxRecDepth 100000
set_option maxHeartbeats 4000000
namespace Q
open PySem PySem.Spec PyProof.Rows L2
/-! ### keys of small numbers have hashes of their own -/
def hsh (ks : List Nat) : Nat := ((reduceHash (PySem.Builtin.Tuple.tupleHashOf (ks.map fun (k : Nat) => hashInt (Int.ofNat k)))) + 2 ^ 64).toNat
/-- no two with the same rest -/
def goN (N : Nat) : List Nat → Nat → Bool
  | [], _ => true
  | x :: r, acc => !(Nat.testBit acc (x % N)) && goN N r (acc ||| 2 ^ (x % N))
theorem goN_ok {N : Nat} : ∀ {l : List Nat} {acc : Nat}, goN N l acc = true → (∀ x ∈ l, Nat.testBit acc (x % N) = false) ∧ l.Pairwise (fun a b => a ≠ b)
  | [], _, _ => ⟨fun _ h => (by cases h), .nil⟩
  | x :: r, acc, h => by
    simp only [goN, Bool.and_eq_true, Bool.not_eq_true'] at h
    obtain ⟨h1, h2⟩ := h
    obtain ⟨i1, i2⟩ := goN_ok h2
    have hx : ∀ y ∈ r, x ≠ y ∧ Nat.testBit acc (y % N) = false := fun y hy => by
      have := i1 y hy
      rw [Nat.testBit_or, Bool.or_eq_false_iff] at this
      refine ⟨?_, this.1⟩
      rintro rfl
      have t := this.2
      rw [Nat.testBit_two_pow_self] at t
      cases t
    refine ⟨fun y hy => ?_, List.pairwise_cons.mpr ⟨fun y hy => (hx y hy).1, i2⟩⟩
    rcases List.mem_cons.mp hy with rfl | hy
    · exact h1
    · exact (hx y hy).2
def all2 : List Nat := (List.range 32).map fun c => hsh [c / 4, c % 4]
def all4 : List Nat := (List.range 1024).map fun c => hsh [c / 128, c / 32 % 4, c / 4 % 8, c % 4]
theorem apart2 : goN 88 all2 0 = true := by decide +kernel
theorem apart4 : goN 31451 all4 0 = true := by decide +kernel
theorem pick {f : Nat → Nat} {n : Nat} (h : ((List.range n).map f).Pairwise (fun a b => a ≠ b)) {i j : Nat} (hi : i < n) (hj : j < n) (e : f i = f j) : i = j := by
  have h2 := List.pairwise_map.mp h
  rw [List.pairwise_iff_getElem] at h2
  rcases Nat.lt_trichotomy i j with l | l | l
  · have := h2 i j (by simpa using hi) (by simpa using hj) l
    simp at this
    exact absurd e this
  · exact l
  · have := h2 j i (by simpa using hj) (by simpa using hi) l
    simp at this
    exact absurd e.symm this
theorem hsh2 {a b c d : Nat} (h1 : a < 8) (h2 : b < 4) (h3 : c < 8) (h4 : d < 4) (e : hsh [a, b] = hsh [c, d]) : a * 4 + b = c * 4 + d := by
  refine pick (f := fun c => hsh [c / 4, c % 4]) (goN_ok apart2).2 (by omega) (by omega) ?_
  show hsh _ = hsh _
  rw [show (a * 4 + b) / 4 = a by omega, show (a * 4 + b) % 4 = b by omega, show (c * 4 + d) / 4 = c by omega, show (c * 4 + d) % 4 = d by omega]
  exact e
theorem hsh4 {a b c d a' b' c' d' : Nat} (h1 : a < 8) (h2 : b < 4) (h3 : c < 8) (h4 : d < 4) (h1' : a' < 8) (h2' : b' < 4) (h3' : c' < 8) (h4' : d' < 4) (e : hsh [a, b, c, d] = hsh [a', b', c', d']) :
    ((a * 4 + b) * 8 + c) * 4 + d = ((a' * 4 + b') * 8 + c') * 4 + d' := by
  refine pick (f := fun c => hsh [c / 128, c / 32 % 4, c / 4 % 8, c % 4]) (goN_ok apart4).2 (by omega) (by omega) ?_
  show hsh _ = hsh _
  rw [show (((a * 4 + b) * 8 + c) * 4 + d) / 128 = a by omega, show (((a * 4 + b) * 8 + c) * 4 + d) / 32 % 4 = b by omega, show (((a * 4 + b) * 8 + c) * 4 + d) / 4 % 8 = c by omega, show (((a * 4 + b) * 8 + c) * 4 + d) % 4 = d by omega,
    show (((a' * 4 + b') * 8 + c') * 4 + d') / 128 = a' by omega, show (((a' * 4 + b') * 8 + c') * 4 + d') / 32 % 4 = b' by omega, show (((a' * 4 + b') * 8 + c') * 4 + d') / 4 % 8 = c' by omega, show (((a' * 4 + b') * 8 + c') * 4 + d') % 4 = d' by omega]
  exact e
def key2 (e : Lrx9.Entry) : List Key := [Sum.inl (e.station : Int), Sum.inl (e.class_ : Int)]
def key4 (e : Lrx9.Entry) : List Key := [Sum.inl (e.station : Int), Sum.inl (e.class_ : Int), Sum.inl (e.toStation : Int), Sum.inl (e.toClass : Int)]
def hK (ks : List Key) (w : World) : Int := (tupleKind (mixKind prog w)).hash ks
/-- keys that tell entries apart, their hashes too -/
structure KeyOk (w : World) (key : Lrx9.Entry → List Key) (P : Lrx9.Entry → Prop) : Prop where
  inj : ∀ a b, P a → P b → hK (key a) w = hK (key b) w → Qu.code a = Qu.code b
  at_ : ∀ a b, P a → P b → Qu.code a = Qu.code b → key a = key b
theorem hK_hsh {w : World} {ns : List Nat} : ((hK (ns.map fun (n : Nat) => Sum.inl (n : Int)) w) + 2 ^ 64).toNat = hsh ns := by
  unfold hK hsh
  show (reduceHash (PySem.Builtin.Tuple.tupleHashOf ((ns.map fun (n : Nat) => (Sum.inl (n : Int) : Key)).map (keyH w))) + 2 ^ 64).toNat = _
  rw [List.map_map]
  rfl
theorem hK2 {w : World} {e : Lrx9.Entry} : ((hK (key2 e) w) + 2 ^ 64).toNat = hsh [e.station, e.class_] := hK_hsh (ns := [e.station, e.class_])
theorem hK4 {w : World} {e : Lrx9.Entry} : ((hK (key4 e) w) + 2 ^ 64).toNat = hsh [e.station, e.class_, e.toStation, e.toClass] := hK_hsh (ns := [e.station, e.class_, e.toStation, e.toClass])
theorem key2_ok {w : World} {ns nc : Nat} (h1 : ns ≤ 8) (h2 : nc ≤ 4) : KeyOk w key2 (Qu.PlR ns nc) := by
  refine ⟨fun a b ha hb e => ?_, fun a b ha hb e => ?_⟩
  · have e2 := congrArg (fun i : Int => (i + 2 ^ 64).toNat) e
    simp only [hK2] at e2
    have sa := Qu.pl_sm ha h1 h2
    have sb := Qu.pl_sm hb h1 h2
    have := hsh2 sa.a sa.b sb.a sb.b e2
    obtain ⟨-, -, a3, a4⟩ := ha
    obtain ⟨-, -, b3, b4⟩ := hb
    unfold Qu.code
    rw [a3, a4, b3, b4]
    omega
  · have sa := Qu.pl_sm ha h1 h2
    have sb := Qu.pl_sm hb h1 h2
    have := sa.b; have := sb.b; have := sa.c; have := sa.d; have := sb.c; have := sb.d
    unfold Qu.code at e
    unfold key2
    rw [show a.station = b.station by omega, show a.class_ = b.class_ by omega]
theorem key4_ok {w : World} {ns nc : Nat} (h1 : ns ≤ 8) (h2 : nc ≤ 4) : KeyOk w key4 (Qu.RoR ns nc) := by
  refine ⟨fun a b ha hb e => ?_, fun a b ha hb e => ?_⟩
  · have e2 := congrArg (fun i : Int => (i + 2 ^ 64).toNat) e
    simp only [hK4] at e2
    have sa := Qu.ro_sm ha h1 h2
    have sb := Qu.ro_sm hb h1 h2
    exact hsh4 sa.a sa.b sa.c sa.d sb.a sb.b sb.c sb.d e2
  · have sa := Qu.ro_sm ha h1 h2
    have sb := Qu.ro_sm hb h1 h2
    have := sa.b; have := sb.b; have := sa.c; have := sa.d; have := sb.c; have := sb.d
    unfold Qu.code at e
    unfold key4
    rw [show a.station = b.station by omega, show a.class_ = b.class_ by omega, show a.toStation = b.toStation by omega, show a.toClass = b.toClass by omega]
/-! ### dict(d), keys that are tuples -/
theorem ktype {X : Cx} {pins : List (Addr × Obj)} {σ : L2.St} {H : Hp} {s : Shared} {b : Addr} {ys : List V} (I : Inv X pins σ H s) (e : H b = some (.tup ys)) : s.TypeIs (.ref b) "tuple" := by
  obtain ⟨_, its, _, o, h1, h2, n, h3⟩ := (show ObjOk X.prog X.w H s.heap b (.tup ys) from I.hok b _ e)
  exact ⟨o, h1, h2⟩
theorem call_dictT {X : Cx} (hu : X.A.units + 64 < PySem.cLine) (hp : X.prog = prog := by rfl) : CallR X (.type "dict") (fun xs H Q => ∃ (a : Addr) (kvs : List (List Key × V)), xs = [.ref a] ∧ H a = some (.dT kvs) ∧ (kvs.map fun kv => hK kv.1 X.w).Nodup ∧ ∀ p, H p = none → Q (.ref p) (upd H p (.dT kvs))) := by
  intro pins s σ H xs us Q I r q
  obtain ⟨a, kvs, rfl, hd, nd, q⟩ := q
  obtain ⟨u, rfl, rx⟩ := vals1 r
  obtain rfl : u = Value.ref a := rx
  obtain ⟨z, lo, ws, rel, dd⟩ := dt_of I.hok hd
  have hp0 : H s.heap.objs.size = none := I.hok.fresh (Nat.le_refl _)
  refine callType_codes (Q₁ := fun obj s₁ => obj = .ref s.heap.objs.size ∧ s₁ = { s with heap := s.heap.push { cls := .type "dict", data := .dict #[] } }) F.kt_called_dict (F.kt_typeCall_dict_1 _) F.entry_dict_init (kt_code_dict_new _ ⟨rfl, rfl⟩) ?_
  rintro obj s₁ ⟨rfl, rfl⟩
  have hnew : (s.heap.push { cls := .type "dict", data := .dict #[] }).DictOfH (tupleKind (mixKind X.prog X.w)) s.heap.objs.size [] := Heap.DictOfH.new s.heap
  have I1 : Inv X pins σ H { s with heap := s.heap.push { cls := .type "dict", data := .dict #[] } } := I.kept (t' := s.toks) fun b o e => Heap.get?_push_of_some _ e
  obtain ⟨_, _, ws', rel', dd'⟩ := dt_of I1.hok hd
  have hlt : a < s.heap.objs.size := by
    obtain ⟨o, _, _, hg, _⟩ := dd
    exact Heap.lt_size hg
  have hda : s.heap.objs.size ≠ a := Nat.ne_of_gt hlt
  have hl : ws'.length = kvs.length := (Paired.length rel').symm
  have hty : ∀ x ∈ ws', ({ s with heap := s.heap.push { cls := .type "dict", data := .dict #[] } } : Shared).TypeIs (.ref x.2.1) "tuple" := by
    have all : ∀ {l : List (List Key × V)} {m : List (List Key × Addr × Value)}, Paired (fun (p : List Key × V) (q : List Key × Addr × Value) => p.1 = q.1 ∧ H q.2.1 = some (.tup (p.1.map kV)) ∧ RelV p.2 q.2.2) l m → ∀ x ∈ m, ∃ ys, H x.2.1 = some (.tup ys) := by
      intro l m h
      induction h with
      | nil => intro x hx; cases hx
      | cons hq t ih =>
        intro x hx
        rcases List.mem_cons.mp hx with rfl | hx
        · exact ⟨_, hq.2.1⟩
        · exact ih x hx
    intro x hx
    obtain ⟨ys, e⟩ := all rel' x hx
    exact ktype I1 e
  have hnd : (ws'.map fun x => (tupleKind (mixKind X.prog X.w)).hash x.1).Nodup := by
    have e : ws'.map (fun x => (tupleKind (mixKind X.prog X.w)).hash x.1) = kvs.map fun kv => hK kv.1 X.w := by
      have all : ∀ {l : List (List Key × V)} {m : List (List Key × Addr × Value)}, Paired (fun (p : List Key × V) (q : List Key × Addr × Value) => p.1 = q.1 ∧ H q.2.1 = some (.tup (p.1.map kV)) ∧ RelV p.2 q.2.2) l m → m.map (fun x => (tupleKind (mixKind X.prog X.w)).hash x.1) = l.map fun kv => hK kv.1 X.w := by
        intro l m h
        induction h with
        | nil => rfl
        | cons hq t ih =>
          rw [List.map_cons, List.map_cons, ih, ← hq.1]
          unfold hK
          rw [hp]
      exact all rel'
    rw [e]
    exact nd
  refine ⟨hnew.typeIs, F.args_dict_init_2 _ _, ?_⟩
  unfold Builtin.«dict.__init__»
  refine wpAny_bind ?_
  unfold Builtin.Dict.selfAndRest
  refine wpAny_bind (wpAny_notOrdered_dict hnew.typeIs ?_)
  show wpAny _ _ (pure (s.heap.objs.size, [Value.ref a])) _ _ _
  refine wpAny_pure ?_
  show wpAny _ _ (Builtin.Dict.updateFrom "dict.__init__" s.heap.objs.size (.ref a) [] .none) _ _ _
  refine updateFrom_dictH (R := wants _ _) .none ?_ hda lo hnew dd' (.inr ⟨hty, hnd⟩) (by rw [List.length_nil, Nat.zero_add, hl]; exact z) ?_
  · exact tupleKind_room_in1 (show X.A.in1.units + 1 < PySem.cLine from by
      have : X.A.in1.units = X.A.units + 1 := rfl
      omega)
  intro h' hd' ho' hs'
  rw [storedAllH_nil_of_nodup ws' dd'.nodup] at hd'
  obtain ⟨o, es, ep, hq, h2, h3, h4, _, h5⟩ := hd'
  have hm : (s.heap.objs.size == sysModules) = false := beq_eq_false_iff_ne.mpr (Nat.ne_of_gt I.big)
  refine ⟨rfl, .ref s.heap.objs.size, upd H s.heap.objs.size (.dT kvs), I.laid (t' := s.toks) (fun b u e => (hs'.2 b (Nat.ne_of_lt (Heap.lt_size e))).trans (Heap.get?_push_of_some _ e)) (Nat.le_refl _)
    (show ObjOk X.prog X.w _ _ _ (.dT kvs) from ⟨z, hm, ws', KT.keeps rel' (fun c ys ec => (by rw [upd_ne (ne_of_none ec hp0)]; exact ec)), o, es, ep, hq, h2, h3, h4, h5⟩), rfl, q _ hp0⟩
end Q
set_option Elab.async false
set_option linter.all false
set_option maxRecDepth 100000
set_option maxHeartbeats 4000000
namespace Q
open PySem PySem.Spec PyProof.Rows L2
/-! ### a model as it lies -/
abbrev cModel (K : PySem.W.Frag) : Addr := He.ga K "Model"
abbrev cStation (K : PySem.W.Frag) : Addr := He.ga K "Station"
def words (l : List (List Nat)) : List V := l.map fun w => V.str (sT w)
def staF (s : Lrx9.Station) : List (Str × V) := [("name", .str (sT s.name)), ("discipline", .int (s.discipline : Int)), ("servers", .int (s.servers : Int)), ("capacity", .int (s.capacity : Int))]
def StaV (K : PySem.W.Frag) (H : Hp) (v : V) (s : Lrx9.Station) : Prop := ∃ b dx, v = .ref b ∧ H b = some (.ins (cStation K) dx (staF s))
structure MD where
  a : Addr
  dx : Addr
  co : Addr
  cl : Addr
  st : Addr
  sv : Addr
  ar : Addr
  ro : Addr
  le : Addr
  po : Addr
def mdF (d : MD) : List (Str × V) := [("constants", .ref d.co), ("classes", .ref d.cl), ("stations", .ref d.st), ("services", .ref d.sv), ("arrivals", .ref d.ar), ("routes", .ref d.ro), ("leaves", .ref d.le), ("populations", .ref d.po)]
/-- a table of values by places -/
def TabV (K : PySem.W.Frag) (H : Hp) (key : Lrx9.Entry → List Key) (a : Addr) (l : List Lrx9.Entry) : Prop :=
  ∃ kvs es, H a = some (.dT kvs) ∧ Paired (fun (kv : List Key × V) (e : Lrx9.Entry) => kv.1 = key e ∧ FrV K H kv.2 e.value) kvs es ∧ es.Perm l
def PopV (H : Hp) (a : Addr) (l : List Lrx9.Entry) : Prop :=
  ∃ (kvs : List (Key × V)) (es : List Lrx9.Entry), H a = some (.dK kvs) ∧ Paired (fun (kv : Key × V) (e : Lrx9.Entry) => kv.1 = Sum.inl (e.class_ : Int) ∧ kv.2 = .int e.value.num) kvs es ∧ es.Perm l
def LstV (K : PySem.W.Frag) (H : Hp) (a : Addr) (l : List Lrx9.Station) : Prop := ∃ vs, H a = some (.lst vs) ∧ Paired (StaV K H) vs l
structure MdO (K : PySem.W.Frag) (H : Hp) (d : MD) (M : Lrx9.Model) : Prop where
  ob : H d.a = some (.ins (cModel K) d.dx (mdF d))
  co : CoV K H d.co M.constants
  cl : H d.cl = some (.lst (words M.classes))
  st : LstV K H d.st M.stations
  sv : TabV K H key2 d.sv M.services
  ar : TabV K H key2 d.ar M.arrivals
  ro : TabV K H key4 d.ro M.routes
  le : TabV K H key2 d.le M.leaving
  po : PopV H d.po M.populations
  n1 : d.co ≠ d.po
  n2 : d.cl ≠ d.st
  n3 : [d.sv, d.ar, d.ro, d.le].Nodup
theorem TabV.fm {S : Addr → Prop} {K : PySem.W.Frag} {H H' : Hp} {key : Lrx9.Entry → List Key} {a : Addr} {l : List Lrx9.Entry} (h : TabV K H key a l) (e : Fm S H H') (n : ¬ S a) : TabV K H' key a l := by
  obtain ⟨kvs, es, h1, h2, h3⟩ := h
  exact ⟨kvs, es, e.st _ _ h1 fun s => absurd s n, paired_imp (fun _ _ z => ⟨z.1, e.frv z.2⟩) h2, h3⟩
theorem PopV.fm {S : Addr → Prop} {H H' : Hp} {a : Addr} {l : List Lrx9.Entry} (h : PopV H a l) (e : Fm S H H') (n : ¬ S a) : PopV H' a l := by
  obtain ⟨kvs, es, h1, h2, h3⟩ := h
  exact ⟨kvs, es, e.st _ _ h1 fun s => absurd s n, h2, h3⟩
theorem LstV.fm {S : Addr → Prop} {K : PySem.W.Frag} {H H' : Hp} {a : Addr} {l : List Lrx9.Station} (h : LstV K H a l) (e : Fm S H H') (n : ¬ S a) (k : ∀ b dx s, H b = some (.ins (cStation K) dx (staF s)) → ¬ S b) : LstV K H' a l := by
  obtain ⟨vs, h1, h2⟩ := h
  exact ⟨vs, e.st _ _ h1 fun s => absurd s n, paired_imp (fun _ s ⟨b, dx, e1, e2⟩ => ⟨b, dx, e1, e.st _ _ e2 fun z => absurd z (k b dx s e2)⟩) h2⟩
/-- S holds readers alone -/
def Rds (S : Addr → Prop) (H : Hp) : Prop := ∀ b, S b → ∃ C dx l k n, H b = some (.ins C dx (rdF l k n))
theorem Rds.no {S : Addr → Prop} {H : Hp} (h : Rds S H) {b : Addr} {o : HO} (e : H b = some o) (n : ∀ C dx l k m, o ≠ .ins C dx (rdF l k m)) : ¬ S b := fun s => by
  obtain ⟨C, dx, l, k, m, e2⟩ := h b s
  rw [e] at e2
  exact n _ _ _ _ _ (Option.some.inj e2)
theorem MdO.fm {S : Addr → Prop} {K : PySem.W.Frag} {H H' : Hp} {d : MD} {M : Lrx9.Model} (h : MdO K H d M) (e : Fm S H H') (n : Rds S H) : MdO K H' d M := by
  have len : ∀ {C dx C' dx' : Addr} {fs gs : List (Str × V)}, fs.length ≠ gs.length → HO.ins C dx fs ≠ .ins C' dx' gs := fun q z => by
    injection z with _ _ z
    exact q (by rw [z])
  refine ⟨e.st _ _ h.ob fun s => absurd s (n.no h.ob fun _ _ _ _ _ => len (by simp [mdF, rdF])), h.co.fm e ?_, e.st _ _ h.cl fun s => absurd s (n.no h.cl fun _ _ _ _ _ z => by cases z), ?_, h.sv.fm e ?_, h.ar.fm e ?_, h.ro.fm e ?_, h.le.fm e ?_, h.po.fm e ?_, h.n1, h.n2, h.n3⟩
  · obtain ⟨kvs, h1, -⟩ := h.co
    exact n.no h1 fun _ _ _ _ _ z => by cases z
  · obtain ⟨vs, h1, -⟩ := id h.st
    exact h.st.fm e (n.no h1 fun _ _ _ _ _ z => by cases z) fun b dx s hb => n.no hb fun _ _ _ _ _ => len (by simp [staF, rdF])
  · obtain ⟨kvs, es, h1, -⟩ := h.sv
    exact n.no h1 fun _ _ _ _ _ z => by cases z
  · obtain ⟨kvs, es, h1, -⟩ := h.ar
    exact n.no h1 fun _ _ _ _ _ z => by cases z
  · obtain ⟨kvs, es, h1, -⟩ := h.ro
    exact n.no h1 fun _ _ _ _ _ z => by cases z
  · obtain ⟨kvs, es, h1, -⟩ := h.le
    exact n.no h1 fun _ _ _ _ _ z => by cases z
  · obtain ⟨kvs, es, h1, -⟩ := h.po
    exact n.no h1 fun _ _ _ _ _ z => by cases z
theorem rds_none {H : Hp} : Rds (fun _ => False) H := fun _ z => z.elim
theorem MdO.same {K : PySem.W.Frag} {H H' : Hp} {d : MD} {M : Lrx9.Model} (h : MdO K H d M) (e : Same H H') : MdO K H' d M := h.fm (S := fun _ => False) e.fm rds_none
theorem RdO.rds {K : PySem.W.Frag} {H : Hp} {r : RD} (R : RdO K H r) : Rds (fun b => b = r.a) H := fun b e => by
  have e' : b = r.a := e
  subst e'
  exact ⟨_, _, _, _, _, R.ob⟩
def MdNew (d : MD) (H : Hp) : Prop := ∀ b ∈ [d.a, d.co, d.cl, d.st, d.sv, d.ar, d.ro, d.le, d.po], H b = none
def sp_Station_init (K : PySem.W.Frag) : Sp := sp5 fun a b c d e H Q _ => ∃ (x dx : Addr) (s : Lrx9.Station), a = .ref x ∧ b = .str (sT s.name) ∧ c = .int (s.discipline : Int) ∧ d = .int (s.servers : Int) ∧ e = .int (s.capacity : Int) ∧ H x = some (.ins (cStation K) dx []) ∧ ∀ H', H' = upd H x (.ins (cStation K) dx (staF s)) → Q .non H'
theorem ok_Station_init {w : World} {K : PySem.W.Frag} {mg : Str → Option Value} {base : Heap} (T : Txt w K mg) : OKF w K mg base (CX0) 1 d_Station_init ["self", "name", "discipline", "servers", "capacity"] (sp_Station_init K) := by
  refine okf_mk (k := 0) T 10 rfl sc_Station_init rfl rfl (fun _ _ _ _ _ _ us hl => match us, hl with | [_, _, _, _, _], _ => rfl) sp5_len (fun f cdv A outer s H vs Q E hr h => ?_)
  refine ⟨_, (PSs.nox (pss_cons (ps_fld (pv 0) (pv 1) rfl)
      (pss_cons (ps_fld (pv 0) (pv 2) rfl)
      (pss_cons (ps_fld (pv 0) (pv 3) rfl)
      (pss_one (ps_fld (pv 0) (pv 4) rfl)))))), ?_⟩
  obtain ⟨_, _, _, _, _, rfl, x, dx, s, rfl, rfl, rfl, rfl, rfl, hx, hQ⟩ := h
  refine ⟨_, rfl, _, rfl, _, _, _, _, rfl, hx, T.c_Station, T.n_Station_name, Nat.le_of_ble_eq_true rfl, ?_⟩
  refine ⟨_, rfl, _, rfl, _, _, _, _, rfl, upd_same, T.c_Station, T.n_Station_discipline, Nat.le_of_ble_eq_true rfl, ?_⟩
  refine ⟨_, rfl, _, rfl, _, _, _, _, rfl, upd_same, T.c_Station, T.n_Station_servers, Nat.le_of_ble_eq_true rfl, ?_⟩
  refine ⟨_, rfl, _, rfl, _, _, _, _, rfl, upd_same, T.c_Station, T.n_Station_capacity, Nat.le_of_ble_eq_true rfl, ?_⟩
  show Q .non (upd (upd (upd (upd H x _) x _) x _) x _)
  rw [upd_upd, upd_upd, upd_upd]
  exact hQ _ rfl
/-- a new thing becomes a field -/
theorem fld_new {H Hi : Hp} {p x C dx : Addr} {o : HO} {fs fs' : List (Str × V)} (F : Fm (fun b => b = x) H Hi) (hx : Hi x = some (.ins C dx fs)) (hp : Hi p = none) :
    Fm (fun b => b = x) H (upd (upd Hi p o) x (.ins C dx fs')) ∧ upd (upd Hi p o) x (.ins C dx fs') x = some (.ins C dx fs') ∧ upd (upd Hi p o) x (.ins C dx fs') p = some o ∧ H p = none ∧ p ≠ x ∧
      (∀ b u, b ≠ x → Hi b = some u → upd (upd Hi p o) x (.ins C dx fs') b = some u ∧ b ≠ p) := by
  have px : p ≠ x := by rintro rfl; rw [hx] at hp; cases hp
  have hx' : upd Hi p o x = some (.ins C dx fs) := (Same.new hp) _ _ hx
  refine ⟨(F.new hp).put hx' id (.inr rfl), upd_same, by rw [upd_ne px, upd_same], F.no _ hp, px, fun b u n e => ?_⟩
  have bp : b ≠ p := ne_of_none e hp
  exact ⟨by rw [upd_ne n, upd_ne bp]; exact e, bp⟩
def sp_Model_init (K : PySem.W.Frag) : Sp := sp1 fun a H Q _ => ∃ (x dx : Addr), a = .ref x ∧ H x = some (.ins (cModel K) dx []) ∧
  ∀ d H', d.a = x → d.dx = dx → Fm (fun b => b = x) H H' → MdO K H' d Lrx9.empty → (∀ b ∈ [d.co, d.cl, d.st, d.sv, d.ar, d.ro, d.le, d.po], H b = none) → Q .non H'
theorem ok_Model_init {w : World} {K : PySem.W.Frag} {mg : Str → Option Value} {base : Heap} (T : Txt w K mg) : OKF w K mg base (CX0) 1 d_Model_init ["self"] (sp_Model_init K) := by
  refine okf_mk (k := 0) T 11 rfl sc_Model_init rfl rfl (fun _ _ _ _ _ _ us hl => match us, hl with | [_], _ => rfl) sp1_len (fun f cdv A outer s H vs Q E hr h => ?_)
  refine ⟨_, (PSs.nox (pss_cons (ps_fld (pv 0) pe_dnewK rfl)
      (pss_cons (ps_fld (pv 0) (pe_lst pa_nil) rfl)
      (pss_cons (ps_fld (pv 0) (pe_lst pa_nil) rfl)
      (pss_cons (ps_fld (pv 0) pe_dnewT rfl)
      (pss_cons (ps_fld (pv 0) pe_dnewT rfl)
      (pss_cons (ps_fld (pv 0) pe_dnewT rfl)
      (pss_cons (ps_fld (pv 0) pe_dnewT rfl)
      (pss_one (ps_fld (pv 0) pe_dnewK rfl)))))))))), ?_⟩
  obtain ⟨_, rfl, x, dx, rfl, hx, hQ⟩ := h
  refine fun p1 hp1 => ⟨_, rfl, x, _, dx, _, rfl, Same.new hp1 _ _ hx, T.c_Model, T.n_Model_constants, Nat.le_of_ble_eq_true rfl, ?_⟩
  obtain ⟨F1, e1, q1, n1, m1, k1⟩ := fld_new (o := .dK []) (fs' := putF "constants" (.ref p1) []) (Fm.refl H) hx hp1
  generalize upd (upd H p1 (.dK [])) x _ = H1 at *
  refine ⟨by show 0 ≤ sizeLine; decide, fun p2 hp2 => ⟨_, rfl, x, _, dx, _, rfl, Same.new hp2 _ _ e1, T.c_Model, T.n_Model_classes, Nat.le_of_ble_eq_true rfl, ?_⟩⟩
  obtain ⟨F2, e2, q2, n2, m2, k2⟩ := fld_new (o := .lst []) (fs' := putF "classes" (.ref p2) (putF "constants" (.ref p1) [])) F1 e1 hp2
  generalize upd (upd H1 p2 (.lst [])) x _ = H2 at *
  refine ⟨by show 0 ≤ sizeLine; decide, fun p3 hp3 => ⟨_, rfl, x, _, dx, _, rfl, Same.new hp3 _ _ e2, T.c_Model, T.n_Model_stations, Nat.le_of_ble_eq_true rfl, ?_⟩⟩
  obtain ⟨F3, e3, q3, n3, m3, k3⟩ := fld_new (o := .lst []) (fs' := putF "stations" (.ref p3) (putF "classes" (.ref p2) (putF "constants" (.ref p1) []))) F2 e2 hp3
  generalize upd (upd H2 p3 (.lst [])) x _ = H3 at *
  refine fun p4 hp4 => ⟨_, rfl, x, _, dx, _, rfl, Same.new hp4 _ _ e3, T.c_Model, T.n_Model_services, Nat.le_of_ble_eq_true rfl, ?_⟩
  obtain ⟨F4, e4, q4, n4, m4, k4⟩ := fld_new (o := .dT []) (fs' := putF "services" (.ref p4) (putF "stations" (.ref p3) (putF "classes" (.ref p2) (putF "constants" (.ref p1) [])))) F3 e3 hp4
  generalize upd (upd H3 p4 (.dT [])) x _ = H4 at *
  refine fun p5 hp5 => ⟨_, rfl, x, _, dx, _, rfl, Same.new hp5 _ _ e4, T.c_Model, T.n_Model_arrivals, Nat.le_of_ble_eq_true rfl, ?_⟩
  obtain ⟨F5, e5, q5, n5, m5, k5⟩ := fld_new (o := .dT []) (fs' := putF "arrivals" (.ref p5) (putF "services" (.ref p4) (putF "stations" (.ref p3) (putF "classes" (.ref p2) (putF "constants" (.ref p1) []))))) F4 e4 hp5
  generalize upd (upd H4 p5 (.dT [])) x _ = H5 at *
  refine fun p6 hp6 => ⟨_, rfl, x, _, dx, _, rfl, Same.new hp6 _ _ e5, T.c_Model, T.n_Model_routes, Nat.le_of_ble_eq_true rfl, ?_⟩
  obtain ⟨F6, e6, q6, n6, m6, k6⟩ := fld_new (o := .dT []) (fs' := putF "routes" (.ref p6) (putF "arrivals" (.ref p5) (putF "services" (.ref p4) (putF "stations" (.ref p3) (putF "classes" (.ref p2) (putF "constants" (.ref p1) [])))))) F5 e5 hp6
  generalize upd (upd H5 p6 (.dT [])) x _ = H6 at *
  refine fun p7 hp7 => ⟨_, rfl, x, _, dx, _, rfl, Same.new hp7 _ _ e6, T.c_Model, T.n_Model_leaves, Nat.le_of_ble_eq_true rfl, ?_⟩
  obtain ⟨F7, e7, q7, n7, m7, k7⟩ := fld_new (o := .dT []) (fs' := putF "leaves" (.ref p7) (putF "routes" (.ref p6) (putF "arrivals" (.ref p5) (putF "services" (.ref p4) (putF "stations" (.ref p3) (putF "classes" (.ref p2) (putF "constants" (.ref p1) []))))))) F6 e6 hp7
  generalize upd (upd H6 p7 (.dT [])) x _ = H7 at *
  refine fun p8 hp8 => ⟨_, rfl, x, _, dx, _, rfl, Same.new hp8 _ _ e7, T.c_Model, T.n_Model_populations, Nat.le_of_ble_eq_true rfl, ?_⟩
  obtain ⟨F8, e8, q8, n8, m8, k8⟩ := fld_new (o := .dK []) (fs' := putF "populations" (.ref p8) (putF "leaves" (.ref p7) (putF "routes" (.ref p6) (putF "arrivals" (.ref p5) (putF "services" (.ref p4) (putF "stations" (.ref p3) (putF "classes" (.ref p2) (putF "constants" (.ref p1) [])))))))) F7 e7 hp8
  show Q .non (upd (upd H7 p8 (.dK [])) x _)
  generalize upd (upd H7 p8 (.dK [])) x _ = H8 at *
  have c1 := k8 _ _ m1 (k7 _ _ m1 (k6 _ _ m1 (k5 _ _ m1 (k4 _ _ m1 (k3 _ _ m1 (k2 _ _ m1 q1).1).1).1).1).1).1
  have b2 := k3 _ _ m2 q2
  have c2 := k8 _ _ m2 (k7 _ _ m2 (k6 _ _ m2 (k5 _ _ m2 (k4 _ _ m2 b2.1).1).1).1).1
  have c3 := k8 _ _ m3 (k7 _ _ m3 (k6 _ _ m3 (k5 _ _ m3 (k4 _ _ m3 q3).1).1).1).1
  have b4 := k5 _ _ m4 q4
  have b4' := k6 _ _ m4 b4.1
  have b4'' := k7 _ _ m4 b4'.1
  have c4 := k8 _ _ m4 b4''.1
  have b5 := k6 _ _ m5 q5
  have b5' := k7 _ _ m5 b5.1
  have c5 := k8 _ _ m5 b5'.1
  have b6 := k7 _ _ m6 q6
  have c6 := k8 _ _ m6 b6.1
  have c7 := k8 _ _ m7 q7
  refine hQ ⟨x, dx, p1, p2, p3, p4, p5, p6, p7, p8⟩ H8 rfl rfl F8 ⟨e8, ⟨[], c1.1, .nil⟩, c2.1, ⟨[], c3.1, .nil⟩, ⟨[], [], c4.1, .nil, .refl _⟩, ⟨[], [], c5.1, .nil, .refl _⟩, ⟨[], [], c6.1, .nil, .refl _⟩, ⟨[], [], c7.1, .nil, .refl _⟩, ⟨[], [], q8, .nil, .refl _⟩, c1.2, b2.2, ?_⟩ ?_
  · show [p4, p5, p6, p7].Nodup
    simp only [List.nodup_cons, List.mem_cons, List.not_mem_nil, or_false, not_or, List.nodup_nil, and_true, not_false_eq_true]
    exact ⟨⟨b4.2, b4'.2, b4''.2⟩, ⟨b5.2, b5'.2⟩, b6.2⟩
  · intro b hb
    simp only [List.mem_cons, List.not_mem_nil, or_false] at hb
    rcases hb with rfl | rfl | rfl | rfl | rfl | rfl | rfl | rfl <;> assumption
end Q
set_option Elab.async false
set_option linter.all false
set_option maxRecDepth 100000
set_option maxHeartbeats 4000000
namespace Q
open PySem PySem.Spec PyProof.Rows L2
theorem Fm.same1 {H H' : Hp} {x : Addr} (a : Fm (fun b => b = x) H H') (h : H x = none) : Same H H' := fun b o e => a.st b o e fun z => by
  have z' : b = x := z
  rw [z', h] at e
  cases e
theorem keys_nodup {w : World} {key : Lrx9.Entry → List Key} {P : Lrx9.Entry → Prop} {F : List Key × V → Lrx9.Entry → Prop} (hF : ∀ kv e, F kv e → kv.1 = key e) (ok : KeyOk w key P) : ∀ {kvs : List (List Key × V)} {es : List Lrx9.Entry}, Paired F kvs es → (∀ e ∈ es, P e) → (es.map Qu.code).Nodup → (kvs.map fun kv => hK kv.1 w).Nodup
  | _, _, .nil, _, _ => List.nodup_nil
  | kv :: kvs, e :: es, .cons h r, hp, nd => by
    have nd' := List.nodup_cons.mp (show (Qu.code e :: es.map Qu.code).Nodup from nd)
    rw [List.map_cons]
    refine List.nodup_cons.mpr ⟨fun z => ?_, keys_nodup hF ok r (fun x hx => hp x (List.mem_cons_of_mem _ hx)) nd'.2⟩
    have mem : ∀ {kvs : List (List Key × V)} {es : List Lrx9.Entry}, Paired F kvs es → ∀ x ∈ kvs.map (fun kv => hK kv.1 w), ∃ y ∈ es, x = hK (key y) w := by
      intro kvs es p
      induction p with
      | nil => intro x hx; cases hx
      | cons h t ih =>
        intro x hx
        rcases List.mem_cons.mp hx with rfl | hx
        · exact ⟨_, List.mem_cons_self, congrArg (fun k => hK k w) (hF _ _ h)⟩
        · obtain ⟨y, hy, q⟩ := ih x hx
          exact ⟨y, List.mem_cons_of_mem _ hy, q⟩
    obtain ⟨y, hy, q⟩ := mem r _ z
    rw [hF _ _ h] at q
    have := ok.inj e y (hp e List.mem_cons_self) (hp y (List.mem_cons_of_mem _ hy)) q
    exact nd'.1 (by rw [this]; exact List.mem_map_of_mem hy)
theorem perm_nodup {es l : List Lrx9.Entry} (h : l.Pairwise fun a b => Qu.code a < Qu.code b) (p : es.Perm l) : (es.map Qu.code).Nodup := by
  refine (p.map Qu.code).nodup_iff.mpr ?_
  have : (l.map Qu.code).Pairwise (· < ·) := List.pairwise_map.mpr h
  exact this.imp fun hlt => Nat.ne_of_lt hlt
theorem tab_nodup {w : World} {key : Lrx9.Entry → List Key} {P : Lrx9.Entry → Prop} {K : PySem.W.Frag} {H : Hp} {l es : List Lrx9.Entry} {kvs : List (List Key × V)} (ok : KeyOk w key P) (h : Qu.EnOk P l)
    (p : Paired (fun (kv : List Key × V) (e : Lrx9.Entry) => kv.1 = key e ∧ FrV K H kv.2 e.value) kvs es) (q : es.Perm l) : (kvs.map fun kv => hK kv.1 w).Nodup :=
  keys_nodup (fun _ _ z => z.1) ok p (fun e he => h.rg e (q.subset he)) (perm_nodup h.so q)
def sp_copy_of (K : PySem.W.Frag) : Sp := sp1 fun a H Q _ => ∃ d M, a = .ref d.a ∧ MdO K H d M ∧ Qu.Wf M ∧ ∀ d' H', Same H H' → MdO K H' d' M → MdNew d' H → Q (.ref d'.a) H'
theorem ok_copy_of {w : World} {K : PySem.W.Frag} {mg : Str → Option Value} {base : Heap} (T : Txt w K mg) : OKF w K mg base (CX0) 3 d_copy_of ["model"] (sp_copy_of K) := by
  refine okf_mk (k := 2) T 12 rfl sc_copy_of rfl rfl (fun _ _ _ _ _ _ us hl => match us, hl with | [_], _ => rfl) sp1_len (fun f cdv A outer s H vs Q E hr h => ?_)
  have hu := hu_of hr
  have hu64 := hr.units
  refine ⟨_, (PSs.nox (pss_cons (ps_set (i := 1) sc_copy_of.nd rfl (Or.inl rfl) (pe_mk0 (ok_Model_init T) T.k_Model (hr.mono (by decide)) rfl T.g_Model pass0))
      (pss_cons (ps_fld (pv 1) (pe_callTy call_dictD rfl T.f_dict (by decide +kernel) (pa_cons (pe_fld (pv 0) rfl) pa_nil)) rfl)
      (pss_cons (ps_fld (pv 1) (pe_callTy call_list_of rfl T.f_list (by decide +kernel) (pa_cons (pe_fld (pv 0) rfl) pa_nil)) rfl)
      (pss_cons (ps_fld (pv 1) (pe_callTy call_list_of rfl T.f_list (by decide +kernel) (pa_cons (pe_fld (pv 0) rfl) pa_nil)) rfl)
      (pss_cons (ps_fld (pv 1) (pe_callTy (call_dictT hu64) rfl T.f_dict (by decide +kernel) (pa_cons (pe_fld (pv 0) rfl) pa_nil)) rfl)
      (pss_cons (ps_fld (pv 1) (pe_callTy (call_dictT hu64) rfl T.f_dict (by decide +kernel) (pa_cons (pe_fld (pv 0) rfl) pa_nil)) rfl)
      (pss_cons (ps_fld (pv 1) (pe_callTy (call_dictT hu64) rfl T.f_dict (by decide +kernel) (pa_cons (pe_fld (pv 0) rfl) pa_nil)) rfl)
      (pss_cons (ps_fld (pv 1) (pe_callTy (call_dictT hu64) rfl T.f_dict (by decide +kernel) (pa_cons (pe_fld (pv 0) rfl) pa_nil)) rfl)
      (pss_cons (ps_fld (pv 1) (pe_callTy call_dictD rfl T.f_dict (by decide +kernel) (pa_cons (pe_fld (pv 0) rfl) pa_nil)) rfl)
      (pss_one (ps_ret (pv 1))))))))))))), ?_⟩
  obtain ⟨_, rfl, d, M, rfl, MO, wf, hQ⟩ := h
  refine fun x dx hx hdx ne => ⟨_, rfl, x, dx, rfl, upd_same, fun d0 H0 ea ed F0 MO0 nw => ⟨rfl, ?_⟩⟩
  have hx' : upd H dx (.own x) x = none := by rw [upd_ne (Ne.symm ne)]; exact hx
  have s0 : Same H (upd (upd H dx (.own x)) x (.ins (cModel K) dx [])) := (Same.new hdx).to hx'
  have F0 : Fm (fun b => b = x) H H0 := s0.fm.trans F0
  subst ea
  have e0 := MO0.ob
  rw [ed] at e0
  have nx : ∀ {b : Addr} {o : HO}, H b = some o → b ≠ d0.a := fun e z => by rw [z, hx] at e; cases e
  have old : ∀ {Hi : Hp}, Fm (fun b => b = d0.a) H Hi → Same H Hi := fun F => F.same1 hx
  clear MO0 nw s0 hx'
  obtain ⟨kco, co1, co2⟩ := MO.co
  obtain ⟨vst, st1, st2⟩ := MO.st
  obtain ⟨ksv, esv, sv1, sv2, sv3⟩ := MO.sv
  obtain ⟨kar, ear, ar1, ar2, ar3⟩ := MO.ar
  obtain ⟨kro, ero, ro1, ro2, ro3⟩ := MO.ro
  obtain ⟨kle, ele, le1, le2, le3⟩ := MO.le
  obtain ⟨kpo, epo, po1, po2, po3⟩ := MO.po
  refine ⟨_, rfl, _, _, _, _, _, rfl, old F0 _ _ MO.ob, T.c_Model, T.n_Model_constants, rfl, _, _, rfl, .inl (old F0 _ _ co1), fun p1 hp1 => ⟨_, rfl, d0.a, _, dx, _, rfl, Same.new hp1 _ _ e0, T.c_Model, T.n_Model_constants, Nat.le_of_ble_eq_true rfl, ?_⟩⟩
  obtain ⟨F1, e1, q1, n1, m1, k1⟩ := fld_new (o := .dK kco) (fs' := mdF { d0 with co := p1 }) F0 e0 hp1
  rw [show putF "constants" (V.ref p1) (mdF d0) = mdF { d0 with co := p1 } from rfl]
  generalize upd (upd H0 p1 (.dK kco)) d0.a _ = H1 at *
  refine ⟨_, rfl, _, _, _, _, _, rfl, old F1 _ _ MO.ob, T.c_Model, T.n_Model_classes, rfl, _, _, rfl, .inl (SqL.of (old F1 _ _ MO.cl)), fun p2 hp2 => ⟨_, rfl, d0.a, _, dx, _, rfl, Same.new hp2 _ _ e1, T.c_Model, T.n_Model_classes, Nat.le_of_ble_eq_true rfl, ?_⟩⟩
  obtain ⟨F2, e2, q2, n2, m2, k2⟩ := fld_new (o := .lst (words M.classes)) (fs' := mdF { d0 with co := p1, cl := p2 }) F1 e1 hp2
  rw [show putF "classes" (V.ref p2) (mdF { d0 with co := p1 }) = mdF { d0 with co := p1, cl := p2 } from rfl]
  generalize upd (upd H1 p2 (.lst (words M.classes))) d0.a _ = H2 at *
  refine ⟨_, rfl, _, _, _, _, _, rfl, old F2 _ _ MO.ob, T.c_Model, T.n_Model_stations, rfl, _, _, rfl, .inl (SqL.of (old F2 _ _ st1)), fun p3 hp3 => ⟨_, rfl, d0.a, _, dx, _, rfl, Same.new hp3 _ _ e2, T.c_Model, T.n_Model_stations, Nat.le_of_ble_eq_true rfl, ?_⟩⟩
  obtain ⟨F3, e3, q3, n3, m3, k3⟩ := fld_new (o := .lst vst) (fs' := mdF { d0 with co := p1, cl := p2, st := p3 }) F2 e2 hp3
  rw [show putF "stations" (V.ref p3) (mdF { d0 with co := p1, cl := p2 }) = mdF { d0 with co := p1, cl := p2, st := p3 } from rfl]
  generalize upd (upd H2 p3 (.lst vst)) d0.a _ = H3 at *
  refine ⟨_, rfl, _, _, _, _, _, rfl, old F3 _ _ MO.ob, T.c_Model, T.n_Model_services, rfl, _, _, rfl, old F3 _ _ sv1, tab_nodup (key2_ok wf.nst wf.ncl) wf.sv sv2 sv3, fun p4 hp4 => ⟨_, rfl, d0.a, _, dx, _, rfl, Same.new hp4 _ _ e3, T.c_Model, T.n_Model_services, Nat.le_of_ble_eq_true rfl, ?_⟩⟩
  obtain ⟨F4, e4, q4, n4, m4, k4⟩ := fld_new (o := .dT ksv) (fs' := mdF { d0 with co := p1, cl := p2, st := p3, sv := p4 }) F3 e3 hp4
  rw [show putF "services" (V.ref p4) (mdF { d0 with co := p1, cl := p2, st := p3 }) = mdF { d0 with co := p1, cl := p2, st := p3, sv := p4 } from rfl]
  generalize upd (upd H3 p4 (.dT ksv)) d0.a _ = H4 at *
  refine ⟨_, rfl, _, _, _, _, _, rfl, old F4 _ _ MO.ob, T.c_Model, T.n_Model_arrivals, rfl, _, _, rfl, old F4 _ _ ar1, tab_nodup (key2_ok wf.nst wf.ncl) wf.ar ar2 ar3, fun p5 hp5 => ⟨_, rfl, d0.a, _, dx, _, rfl, Same.new hp5 _ _ e4, T.c_Model, T.n_Model_arrivals, Nat.le_of_ble_eq_true rfl, ?_⟩⟩
  obtain ⟨F5, e5, q5, n5, m5, k5⟩ := fld_new (o := .dT kar) (fs' := mdF { d0 with co := p1, cl := p2, st := p3, sv := p4, ar := p5 }) F4 e4 hp5
  rw [show putF "arrivals" (V.ref p5) (mdF { d0 with co := p1, cl := p2, st := p3, sv := p4 }) = mdF { d0 with co := p1, cl := p2, st := p3, sv := p4, ar := p5 } from rfl]
  generalize upd (upd H4 p5 (.dT kar)) d0.a _ = H5 at *
  refine ⟨_, rfl, _, _, _, _, _, rfl, old F5 _ _ MO.ob, T.c_Model, T.n_Model_routes, rfl, _, _, rfl, old F5 _ _ ro1, tab_nodup (key4_ok wf.nst wf.ncl) wf.ro ro2 ro3, fun p6 hp6 => ⟨_, rfl, d0.a, _, dx, _, rfl, Same.new hp6 _ _ e5, T.c_Model, T.n_Model_routes, Nat.le_of_ble_eq_true rfl, ?_⟩⟩
  obtain ⟨F6, e6, q6, n6, m6, k6⟩ := fld_new (o := .dT kro) (fs' := mdF { d0 with co := p1, cl := p2, st := p3, sv := p4, ar := p5, ro := p6 }) F5 e5 hp6
  rw [show putF "routes" (V.ref p6) (mdF { d0 with co := p1, cl := p2, st := p3, sv := p4, ar := p5 }) = mdF { d0 with co := p1, cl := p2, st := p3, sv := p4, ar := p5, ro := p6 } from rfl]
  generalize upd (upd H5 p6 (.dT kro)) d0.a _ = H6 at *
  refine ⟨_, rfl, _, _, _, _, _, rfl, old F6 _ _ MO.ob, T.c_Model, T.n_Model_leaves, rfl, _, _, rfl, old F6 _ _ le1, tab_nodup (key2_ok wf.nst wf.ncl) wf.le le2 le3, fun p7 hp7 => ⟨_, rfl, d0.a, _, dx, _, rfl, Same.new hp7 _ _ e6, T.c_Model, T.n_Model_leaves, Nat.le_of_ble_eq_true rfl, ?_⟩⟩
  obtain ⟨F7, e7, q7, n7, m7, k7⟩ := fld_new (o := .dT kle) (fs' := mdF { d0 with co := p1, cl := p2, st := p3, sv := p4, ar := p5, ro := p6, le := p7 }) F6 e6 hp7
  rw [show putF "leaves" (V.ref p7) (mdF { d0 with co := p1, cl := p2, st := p3, sv := p4, ar := p5, ro := p6 }) = mdF { d0 with co := p1, cl := p2, st := p3, sv := p4, ar := p5, ro := p6, le := p7 } from rfl]
  generalize upd (upd H6 p7 (.dT kle)) d0.a _ = H7 at *
  refine ⟨_, rfl, _, _, _, _, _, rfl, old F7 _ _ MO.ob, T.c_Model, T.n_Model_populations, rfl, _, _, rfl, .inl (old F7 _ _ po1), fun p8 hp8 => ⟨_, rfl, d0.a, _, dx, _, rfl, Same.new hp8 _ _ e7, T.c_Model, T.n_Model_populations, Nat.le_of_ble_eq_true rfl, ?_⟩⟩
  obtain ⟨F8, e8, q8, n8, m8, k8⟩ := fld_new (o := .dK kpo) (fs' := mdF { d0 with co := p1, cl := p2, st := p3, sv := p4, ar := p5, ro := p6, le := p7, po := p8 }) F7 e7 hp8
  rw [show putF "populations" (V.ref p8) (mdF { d0 with co := p1, cl := p2, st := p3, sv := p4, ar := p5, ro := p6, le := p7 }) = mdF { d0 with co := p1, cl := p2, st := p3, sv := p4, ar := p5, ro := p6, le := p7, po := p8 } from rfl]
  generalize upd (upd H7 p8 (.dK kpo)) d0.a _ = H8 at *
  have c1 := k8 _ _ m1 (k7 _ _ m1 (k6 _ _ m1 (k5 _ _ m1 (k4 _ _ m1 (k3 _ _ m1 (k2 _ _ m1 q1).1).1).1).1).1).1
  have b2 := k3 _ _ m2 q2
  have c2 := k8 _ _ m2 (k7 _ _ m2 (k6 _ _ m2 (k5 _ _ m2 (k4 _ _ m2 b2.1).1).1).1).1
  have c3 := k8 _ _ m3 (k7 _ _ m3 (k6 _ _ m3 (k5 _ _ m3 (k4 _ _ m3 q3).1).1).1).1
  have b4 := k5 _ _ m4 q4
  have b4' := k6 _ _ m4 b4.1
  have b4'' := k7 _ _ m4 b4'.1
  have c4 := k8 _ _ m4 b4''.1
  have b5 := k6 _ _ m5 q5
  have b5' := k7 _ _ m5 b5.1
  have c5 := k8 _ _ m5 b5'.1
  have b6 := k7 _ _ m6 q6
  have c6 := k8 _ _ m6 b6.1
  have c7 := k8 _ _ m7 q7
  have s8 := old F8
  refine ⟨_, rfl, ?_⟩
  refine hQ ⟨d0.a, dx, p1, p2, p3, p4, p5, p6, p7, p8⟩ H8 s8 ⟨e8, ⟨kco, c1.1, paired_imp (fun _ _ z => ⟨z.1, z.2.same s8⟩) co2⟩, c2.1, ⟨vst, c3.1, paired_imp (fun _ _ ⟨b, dx, z1, z2⟩ => ⟨b, dx, z1, s8 _ _ z2⟩) st2⟩,
    ⟨ksv, esv, c4.1, paired_imp (fun _ _ z => ⟨z.1, z.2.same s8⟩) sv2, sv3⟩, ⟨kar, ear, c5.1, paired_imp (fun _ _ z => ⟨z.1, z.2.same s8⟩) ar2, ar3⟩, ⟨kro, ero, c6.1, paired_imp (fun _ _ z => ⟨z.1, z.2.same s8⟩) ro2, ro3⟩, ⟨kle, ele, c7.1, paired_imp (fun _ _ z => ⟨z.1, z.2.same s8⟩) le2, le3⟩, ⟨kpo, epo, q8, po2, po3⟩, c1.2, b2.2, ?_⟩ ?_
  · show [p4, p5, p6, p7].Nodup
    simp only [List.nodup_cons, List.mem_cons, List.not_mem_nil, or_false, not_or, List.nodup_nil, and_true, not_false_eq_true]
    exact ⟨⟨b4.2, b4'.2, b4''.2⟩, ⟨b5.2, b5'.2⟩, b6.2⟩
  · intro b hb
    simp only [List.mem_cons, List.not_mem_nil, or_false] at hb
    rcases hb with rfl | rfl | rfl | rfl | rfl | rfl | rfl | rfl | rfl <;> assumption
def stName (H : Hp) (v : V) : V := match v with
  | .ref b => match H b with
    | some (.ins _ _ fs) => (fs.lookup ("name" : Str)).getD .non
    | _ => .non
  | _ => .non
theorem stName_ok {K : PySem.W.Frag} {H : Hp} {v : V} {s : Lrx9.Station} (h : StaV K H v s) : stName H v = .str (sT s.name) := by
  obtain ⟨b, dx, rfl, h⟩ := h
  unfold stName
  simp only [h]
  rfl
theorem names_map {K : PySem.W.Frag} {H : Hp} : ∀ {vs : List V} {l : List Lrx9.Station}, Paired (StaV K H) vs l → vs.map (stName H) = words (l.map fun s => s.name)
  | _, _, .nil => rfl
  | _, _, .cons h r => by
    rw [List.map_cons, stName_ok h, names_map r]
    rfl
theorem paired_left {α β : Type} {F : α → β → Prop} : ∀ {l : List α} {m : List β}, Paired F l m → ∀ x ∈ l, ∃ y ∈ m, F x y
  | _, _, .nil, x, hx => by cases hx
  | _, _, .cons h r, x, hx => by
    rcases List.mem_cons.mp hx with rfl | hx
    · exact ⟨_, List.mem_cons_self, h⟩
    · obtain ⟨y, hy, q⟩ := paired_left r x hx
      exact ⟨y, List.mem_cons_of_mem _ hy, q⟩
def sp_station_names (K : PySem.W.Frag) : Sp := sp1 fun a H Q _ => ∃ d M, a = .ref d.a ∧ MdO K H d M ∧ Qu.Wf M ∧ ∀ b H', Same H H' → H b = none → H' b = some (.lst (words (M.stations.map fun s => s.name))) → Q (.ref b) H'
theorem ok_station_names {w : World} {K : PySem.W.Frag} {mg : Str → Option Value} {base : Heap} (T : Txt w K mg) : OKF w K mg base (CX0) 1 d_station_names ["model"] (sp_station_names K) := by
  refine okf_mk (k := 0) T 13 rfl sc_station_names rfl rfl (fun _ _ _ _ _ _ us hl => match us, hl with | [_], _ => rfl) sp1_len (fun f cdv A outer s H vs Q E hr h => ?_)
  refine ⟨_, (PSs.nox (pss_one (ps_ret (pe_lc (te := tFld K (tVar 1) "name") (own := [("station", 1)]) (g := gName 1) (tt := tYes) rfl sc_station_names.nd (pi_list (pe_fld (pv 0) rfl)) (blkOk_by (N := N_station_names) (sc := defScope s_station_names) (by decide +kernel)) (fun _ _ _ _ _ => (pg_name (i := 1) sc_station_names.nd rfl (Or.inl rfl))) (fun _ _ _ _ _ => pts_nil) (fun _ _ _ _ _ => (pe_fld (pv 1) rfl)))))), ?_⟩
  obtain ⟨_, rfl, d, M, rfl, MO, wf, hQ⟩ := h
  obtain ⟨vst, st1, st2⟩ := MO.st
  refine ⟨_, rfl, _, _, _, _, _, rfl, MO.ob, T.c_Model, T.n_Model_stations, rfl, _, rfl, ⟨_, SqL.of st1⟩, fun D hD => ?_⟩
  refine lc_map (xs := vst) (stName H) hD (SqL.of st1) (by rw [paired_len st2]; exact Nat.le_trans wf.nst (by decide)) (fun _ => rfl) ?_ ?_
  · intro x H' Q' hx s1 q
    obtain ⟨s, -, hs⟩ := paired_left st2 x hx
    have e := stName_ok hs
    obtain ⟨b, dx, rfl, hb⟩ := hs
    exact ⟨_, rfl, _, _, _, _, _, rfl, s1 _ _ hb, T.c_Station, T.n_Station_name, rfl, by rw [e] at q; exact q H' (Same.refl H')⟩
  · intro H' s1 eD
    rw [names_map st2] at eD
    exact hQ D H' s1 hD eD
end Q
set_option Elab.async false
set_option linter.all false
set_option maxRecDepth 100000
set_option maxHeartbeats 4000000
namespace Q
open PySem PySem.Spec PyProof.Rows L2
def SR (r : RD) : Addr → Prop := fun b => b = r.a
/-- a pair column, value -/
def sp_take_word (K : PySem.W.Frag) : Sp := sp1 fun a H Q E => ∃ r : RD, a = .ref r.a ∧ RdO K H r ∧
  match Lrx9.readName r.rest r.len with
  | .error f => LineS K H E f
  | .ok (t, m) => ∀ b H', Fm (SR r) H H' → RdO K H' (r.go 1) → (r.go 1).rest = m → SqT K H' b [.int (t.column : Int), .str (sT t.text)] → t ∈ r.ts → t.kind = 0 → Q (.ref b) H'
theorem ok_take_word {w : World} {K : PySem.W.Frag} {mg : Str → Option Value} {base : Heap} (T : Txt w K mg) : OKF w K mg base (L2N.CX prog w) 4 d_take_word ["reader"] (sp_take_word K) := by
  refine okf_mk (k := 3) T 54 rfl sc_take_word rfl rfl (fun _ _ _ _ _ _ us hl => match us, hl with | [_], _ => rfl) sp1_len (fun f cdv A outer s H vs Q E hr h => ?_)
  refine ⟨_, (pss_cons (ps_set (i := 1) sc_take_word.nd rfl (Or.inl rfl) (pe_ok (ok_column_next T) (hr.mono (by decide)) rfl T.g_column_next pass0 (pa_cons (pv 0) pa_nil)))
      (pss_cons (ps_expr (pe_ok (ok_need T) (hr.mono (by decide)) rfl T.g_need (L2N.passes_call (L2N.takes_of rfl rfl rfl rfl) fun _ _ _ _ h => h) (pa_cons (pe_and (pe_cmpR op_lt (pe_fld (pv 0) rfl) (pe_callB call_len_seq rfl T.f_len boot_len (pa_cons (pe_fld (pv 0) rfl) pa_nil)) (nomark _)) (pe_one (pe_cmpR op_eq (pe_ix ix_tup (pe_ix ix_list (pe_fld (pv 0) rfl) (pe_fld (pv 0) rfl) (fun _ _ => rfl)) pe_int (fun _ _ => rfl)) (pe_gint rfl (T.int_NAME)) (nomark _)))) (pa_cons (pv 1) (pa_cons (pe_gint rfl (T.int_UNEXPECTED)) pa_nil)))))
      (pss_cons (ps_fldaug (pv 0) pe_int in_add)
      (pss_one (ps_ret (pe_tup (pa_cons (pv 1) (pa_cons (pe_ix ix_tup (pe_ix ix_list (pe_fld (pv 0) rfl) (pe_op op_sub (pe_fld (pv 0) rfl) pe_int) (fun _ _ => rfl)) pe_int (fun _ _ => rfl)) pa_nil)))))))), ?_⟩
  obtain ⟨_, rfl, r, rfl, R, hQ⟩ := h
  refine ⟨_, rfl, _, rfl, r, rfl, R, _, rfl, _, _, _, _, _, rfl, R.ob, T.c_Reader, T.n_Reader_at, rfl, _, rfl, _, _, _, _, _, rfl, R.ob, T.c_Reader, T.n_Reader_tokens, rfl, _, _, rfl, .inl (SqL.of R.li), _, _, rfl, rfl, _, rfl, ?_⟩
  cases hr : r.rest with
  | nil =>
    rw [hr] at hQ
    have := R.nil hr
    rw [decide_eq_false (by omega)]
    exact iteF ⟨_, rfl, _, _, _, rfl, false, ⟨r.len, 3⟩, rfl, rfl, rfl, fun z => Bool.noConfusion z, fun _ => hQ⟩
  | cons t m =>
    rw [hr] at hQ
    obtain ⟨b, x, lt, ha, hs, -, hx, rest1, le1⟩ := R.cons hr
    rw [decide_eq_true (by omega)]
    refine iteT ⟨_, rfl, _, _, _, _, _, rfl, R.ob, T.c_Reader, T.n_Reader_tokens, rfl, _, rfl, _, _, _, _, _, rfl, R.ob, T.c_Reader, T.n_Reader_at, rfl, _, _, _, _, rfl, rfl, SqL.of R.li, ha, _, _, _, _, rfl, rfl, hs, at0, rfl, ?_⟩
    have e0 : decide (V.int (t.kind : Int) = V.int 0) = decide (t.kind = 0) := by rw [show (0 : Int) = ((0 : Nat) : Int) from rfl, dec_ieq, Bool.beq_eq_decide_eq]
    simp only [Lrx9.readName] at hQ
    refine ⟨_, rfl, _, _, _, rfl, decide (t.kind = 0), ⟨t.column, 3⟩, congrArg V.bl e0, rfl, rfl, fun z => ?_, fun z => ?_⟩
    · have k0 : t.kind = 0 := of_decide_eq_true z
      rw [if_neg (fun n => n k0)] at hQ
      simp only at hQ
      have hx' := hx (by omega)
      subst hx'
      have F3 : Fm (SR r) H (upd H r.a (.ins (cReader K) r.dx (putF "at" (.int ((r.k : Int) + 1)) (rdF r.l r.k r.len)))) := go_fm (r' := r.go 1) R rfl
      have R3 : RdO K (upd H r.a (.ins (cReader K) r.dx (putF "at" (.int ((r.k : Int) + 1)) (rdF r.l r.k r.len)))) (r.go 1) := R.go le1
      refine ⟨_, rfl, _, _, _, _, _, rfl, R.ob, T.c_Reader, T.n_Reader_at, rfl, _, _, rfl, rfl, _, _, R.ob, Nat.le_of_ble_eq_true rfl, ?_⟩
      generalize upd H r.a (.ins (cReader K) r.dx (putF "at" (.int ((r.k : Int) + 1)) (rdF r.l r.k r.len))) = H3 at *
      have ha3 : atI r.vs (((r.k + 1 : Nat) : Int) - 1) = some (.ref b) := by
        rw [show (((r.k + 1 : Nat) : Int) - 1) = (r.k : Int) by omega]
        exact ha
      refine ⟨_, rfl, _, rfl, _, _, _, _, _, rfl, R3.ob, T.c_Reader, T.n_Reader_tokens, rfl, _, rfl, _, _, _, _, _, rfl, R3.ob, T.c_Reader, T.n_Reader_at, rfl, _, _, rfl, rfl, _, _, _, _, rfl, rfl, SqL.of R3.li, ha3, _, _, _, _, rfl, rfl, F3.seqT hs, at2, by show 2 ≤ sizeLine; decide, fun p hp => ?_⟩
      refine hQ p _ (F3.new hp) (R3.same (Same.new hp)) rest1 (SqT.of upd_same) ?_ k0
      unfold RD.rest at hr
      exact List.mem_of_mem_drop (i := r.k) (by rw [hr]; exact List.mem_cons_self)
    · have k0 : ¬ t.kind = 0 := of_decide_eq_false z
      rw [if_pos k0] at hQ
      exact hQ
theorem mem_of_find {x : List Nat} : ∀ l : List (List Nat), (l.findIdx? fun y => y == x).isSome = l.contains x
  | [] => rfl
  | y :: r => by
    have ih := mem_of_find (x := x) r
    rw [List.findIdx?_cons, List.contains_cons, ← ih]
    by_cases c : y = x
    · rw [if_pos (beq_iff_eq.mpr c), show (x == y) = true from beq_iff_eq.mpr c.symm]
      rfl
    · rw [if_neg (fun z => c (beq_iff_eq.mp z)), show (x == y) = false from beq_eq_false_iff_ne.mpr (Ne.symm c), Bool.false_or, Option.isSome_map]
theorem stations_find {x : List Nat} : ∀ l : List Lrx9.Station, (l.findIdx? fun s => s.name == x) = ((l.map fun s => s.name).findIdx? fun y => y == x)
  | [] => rfl
  | s :: r => by
    rw [List.map_cons, List.findIdx?_cons, List.findIdx?_cons, stations_find r]
theorem defined_eq (M : Lrx9.Model) (n : List Nat) : Lrx9.isDefined M n = (Lrx9.keywords.contains n || ((Lrx9.constantOf M n).isSome || (M.classes.contains n || (M.stations.map fun s => s.name).contains n))) := by
  unfold Lrx9.isDefined Lrx9.classOf Lrx9.stationOf
  rw [mem_of_find, stations_find, mem_of_find]
def sp_take_new_name (K : PySem.W.Frag) : Sp := sp2 fun a b H Q E => ∃ (r : RD) (d : MD) (M : Lrx9.Model), a = .ref r.a ∧ b = .ref d.a ∧ RdO K H r ∧ MdO K H d M ∧ Qu.Wf M ∧ (∀ t ∈ r.ts, Qu.TokOk t) ∧
  match Lrx9.newName M r.rest r.len with
  | .error f => LineF K (SR r) H E f
  | .ok (n, m) => ∀ H', Fm (SR r) H H' → RdO K H' (r.go 1) → (r.go 1).rest = m → Qu.NmOk n → Q (.str (sT n)) H'
theorem wd_yes {x : List Nat} {l : List (List Nat)} : (if false = true then !inV (V.str (sT x)) (words l) else inV (V.str (sT x)) (words l)) = l.contains x := by
  rw [if_neg Bool.false_ne_true]
  exact in_words l
theorem kw_flat {K : PySem.W.Frag} : (t_KEYWORDS.map (He.Dv.v K)).all flatV = true := by
  rw [kw_map]
  exact flat_words _
theorem kw_yes {K : PySem.W.Frag} {x : List Nat} : (if false = true then !inV (V.str (sT x)) (t_KEYWORDS.map (He.Dv.v K)) else inV (V.str (sT x)) (t_KEYWORDS.map (He.Dv.v K))) = Lrx9.keywords.contains x := by
  rw [if_neg Bool.false_ne_true, kw_map]
  exact in_words _
theorem kw_not {K : PySem.W.Frag} {x : List Nat} : (if true = true then !inV (V.str (sT x)) (t_KEYWORDS.map (He.Dv.v K)) else inV (V.str (sT x)) (t_KEYWORDS.map (He.Dv.v K))) = !Lrx9.keywords.contains x := by
  rw [if_pos rfl, kw_map]
  exact congrArg (!·) (in_words _)
/-- a word among the constants -/
theorem co_in {K : PySem.W.Frag} {H : Hp} {M : Lrx9.Model} {a : Addr} {x : List Nat} (h : CoV K H a M.constants) : ∃ o, DGet H a (.str (sT x)) o ∧ o.isSome = (Lrx9.constantOf M x).isSome := by
  obtain ⟨kvs, hc, hp⟩ := h
  refine ⟨_, DGet.k (k := Sum.inr (sT x)) hc, ?_⟩
  unfold Lrx9.constantOf
  rcases co_find (n := x) hp with ⟨n1, n2⟩ | ⟨v, q, n1, n2, n3⟩
  · rw [n1, n2]; rfl
  · rw [n1, n2]; rfl
theorem ok_take_new_name {w : World} {K : PySem.W.Frag} {mg : Str → Option Value} {base : Heap} (T : Txt w K mg) : OKF w K mg base (L2N.CX prog w) 5 d_take_new_name ["reader", "model"] (sp_take_new_name K) := by
  refine okf_mk (k := 4) T 55 rfl sc_take_new_name rfl rfl (fun _ _ _ _ _ _ us hl => match us, hl with | [_, _], _ => rfl) sp2_len (fun f cdv A outer s H vs Q E hr h => ?_)
  have hu := hu_of hr
  have hu64 := hr.units
  refine ⟨_, (pss_cons (ps_asg (pe_ok (ok_take_word T) (hr.mono (by decide)) rfl T.g_take_word (L2N.passes_call (L2N.takes_of rfl rfl rfl rfl) fun _ _ _ _ h => h) (pa_cons (pv 0) pa_nil)) (pg_tup rfl (pgs_cons (pg_name (i := 2) sc_take_new_name.nd rfl (Or.inl rfl)) (pgs_cons (pg_name (i := 3) sc_take_new_name.nd rfl (Or.inl rfl)) pgs_nil))))
      (pss_mid (ps_set (i := 4) sc_take_new_name.nd rfl (Or.inl rfl) (pe_or (pe_cmpR (op_in_seq) (pv 3) (pe_gref rfl (T.g_KEYWORDS)) (by rfl)) (pe_or (pe_cmp (pc_din hu (pv 3) (pe_fld (pv 1) rfl))) (pe_or (pe_cmpR (op_in_seq) (pv 3) (pe_fld (pv 1) rfl) (by rfl)) (pe_one (pe_cmpR (op_in_seq) (pv 3) (pe_ok (ok_station_names T) (hr.mono (by decide)) rfl T.g_station_names pass0 (pa_cons (pv 1) pa_nil)) (by rfl)))))))
      (pss_cons (ps_expr (pe_ok (ok_need T) (hr.mono (by decide)) rfl T.g_need (L2N.passes_call (L2N.takes_of rfl rfl rfl rfl) fun _ _ _ _ h => h) (pa_cons (pe_not (pv 4)) (pa_cons (pv 2) (pa_cons (pe_gint rfl (T.int_KNOWN)) pa_nil)))))
      (pss_one (ps_ret (pv 3)))))), ?_⟩
  obtain ⟨_, _, rfl, r, d, M, rfl, rfl, R, MO, wf, tok, hQ⟩ := h
  refine ⟨_, rfl, _, rfl, r, rfl, R, ?_⟩
  unfold Lrx9.newName at hQ
  cases hn : Lrx9.readName r.rest r.len with
  | error f =>
    rw [hn] at hQ
    exact (show LineF K (SR r) H E f from hQ).sub fun _ z => z.elim
  | ok y =>
    obtain ⟨t, m⟩ := y
    rw [hn] at hQ
    simp only at hQ ⊢
    intro b H1 F1 R1 er1 hs1 tm k0
    have MO1 := MO.fm F1 (R.rds)
    refine ⟨b, _, rfl, hs1, rfl, _, _, rfl, _, _, rfl, rfl, ?_⟩
    refine ⟨fun σ H' => Same H1 H' ∧ σ = [some (.ref r.a), some (.ref d.a), some (.int (t.column : Int)), some (.str (sT t.text)), some (.bl (Lrx9.isDefined M t.text))], ?_, ?_⟩
    · rw [defined_eq]
      refine ⟨_, rfl, _, _, rfl, .inr (T.t_KEYWORDS _), rfl, kw_flat, ?_⟩
      rw [kw_yes]
      refine ⟨_, rfl, ?_⟩
      cases c1 : Lrx9.keywords.contains t.text with
      | true => exact iteT ⟨Same.refl _, rfl⟩
      | false =>
        obtain ⟨o, hg, ho⟩ := co_in (x := t.text) MO1.co
        refine iteF ⟨_, rfl, _, rfl, _, _, _, _, _, rfl, MO1.ob, T.c_Model, T.n_Model_constants, rfl, _, _, rfl, hg, _, rfl, ?_⟩
        rw [ho]
        cases c2 : (Lrx9.constantOf M t.text).isSome with
        | true => exact iteT ⟨Same.refl _, rfl⟩
        | false =>
          refine iteF ⟨_, rfl, _, rfl, _, _, _, _, _, rfl, MO1.ob, T.c_Model, T.n_Model_classes, rfl, _, _, rfl, .inl (SqL.of MO1.cl), rfl, flat_words _, ?_⟩
          rw [wd_yes]
          refine ⟨_, rfl, ?_⟩
          cases c3 : M.classes.contains t.text with
          | true => exact iteT ⟨Same.refl _, rfl⟩
          | false =>
            refine iteF ⟨_, rfl, _, rfl, _, rfl, d, M, rfl, MO1, wf, fun b2 H2 s2 _ hb2 => ⟨_, _, rfl, .inl (SqL.of hb2), rfl, flat_words _, ?_⟩⟩
            rw [wd_yes]
            exact ⟨s2, rfl⟩
    · rintro σ H2 ⟨s2, rfl⟩
      refine ⟨_, rfl, _, rfl, _, rfl, _, _, _, rfl, !Lrx9.isDefined M t.text, ⟨t.column, 5⟩, rfl, rfl, rfl, fun z => ?_, fun z => ?_⟩
      · have z' : Lrx9.isDefined M t.text = false := by simpa using z
        rw [if_neg (by rw [z']; exact Bool.false_ne_true)] at hQ
        refine ⟨_, rfl, hQ H2 (F1.trans s2.fm) (R1.same s2) er1 ?_⟩
        have tk := tok t tm
        unfold Lrx9.isDefined at z'
        exact ⟨(tk.nm k0).1, (tk.nm k0).2, tk.len, (Bool.or_eq_false_iff.mp z').1⟩
      · have z' : Lrx9.isDefined M t.text = true := by simpa using z
        rw [if_pos z'] at hQ
        exact ((show LineF K (SR r) H E _ from hQ).then (F1.trans s2.fm).frm).sub fun _ z => z.elim
def knownAt (names : List (List Nat)) (rest : List Lrx9.Token) (len : Nat) : Except Lrx9.Fault (Nat × List Lrx9.Token) := match Lrx9.readName rest len with
  | .error f => .error f
  | .ok (t, m) => if Lrx9.keywords.contains t.text = true then .error ⟨t.column, 3⟩ else match names.findIdx? (fun y => y == t.text) with
    | none => .error ⟨t.column, 4⟩
    | some i => .ok (i, m)
theorem find_none {x : List Nat} {names : List (List Nat)} (kw : ∀ n ∈ names, Lrx9.keywords.contains n = false) (h : Lrx9.keywords.contains x = true) : names.findIdx? (fun y => y == x) = none := by
  refine List.findIdx?_eq_none_iff.mpr fun y hy => ?_
  refine beq_eq_false_iff_ne.mpr fun z => ?_
  rw [← z, kw y hy] at h
  cases h
theorem known_station {M : Lrx9.Model} (wf : Qu.Wf M) (rest : List Lrx9.Token) (len : Nat) : knownAt (M.stations.map fun s => s.name) rest len = Lrx9.readStation M rest len := by
  unfold knownAt Lrx9.readStation Lrx9.stationOf
  cases Lrx9.readName rest len with
  | error f => rfl
  | ok y =>
    simp only
    rw [stations_find]
    by_cases c : Lrx9.keywords.contains y.1.text = true
    · rw [if_pos c, find_none (fun n hn => by
        obtain ⟨s, hs, rfl⟩ := List.mem_map.mp hn
        exact (wf.st s hs).1.kw) c]
      simp only [c, if_true]
    · rw [if_neg c]
      cases (M.stations.map fun s => s.name).findIdx? (fun z => z == y.1.text) with
      | none => simp only [c, if_false]; rfl
      | some i => rfl
theorem known_class {M : Lrx9.Model} (wf : Qu.Wf M) (rest : List Lrx9.Token) (len : Nat) : knownAt M.classes rest len = Lrx9.readClass M rest len := by
  unfold knownAt Lrx9.readClass Lrx9.classOf
  cases Lrx9.readName rest len with
  | error f => rfl
  | ok y =>
    simp only
    by_cases c : Lrx9.keywords.contains y.1.text = true
    · rw [if_pos c, find_none (fun n hn => (wf.cl n hn).kw) c]
      simp only [c, if_true]
    · rw [if_neg c]
      cases M.classes.findIdx? (fun z => z == y.1.text) with
      | none => simp only [c, if_false]; rfl
      | some i => rfl
def sp_take_known (K : PySem.W.Frag) : Sp := sp2 fun a b H Q E => ∃ (r : RD) (l : Addr) (names : List (List Nat)), a = .ref r.a ∧ b = .ref l ∧ RdO K H r ∧ H l = some (.lst (words names)) ∧
  match knownAt names r.rest r.len with
  | .error f => LineF K (SR r) H E f
  | .ok (i, m) => ∀ H', Fm (SR r) H H' → RdO K H' (r.go 1) → (r.go 1).rest = m → Q (.int (i : Int)) H'
theorem word_index {x : List Nat} {names : List (List Nat)} {i : Nat} (h : names.findIdx? (fun y => y == x) = some i) : (words names)[i]? = some (.str (sT x)) ∧ ∀ (m : Nat) (z : V), m < i → (words names)[m]? = some z → eqV z (.str (sT x)) = false := by
  obtain ⟨hi, h1, h2⟩ := List.findIdx?_eq_some_iff_getElem.mp h
  refine ⟨?_, fun m z hm hz => ?_⟩
  · unfold words
    rw [List.getElem?_map, List.getElem?_eq_getElem hi, beq_iff_eq.mp h1]
    rfl
  · unfold words at hz
    rw [List.getElem?_map, List.getElem?_eq_getElem (by omega)] at hz
    injection hz with hz
    subst hz
    have := h2 m hm
    show (sT _ == sT x) = false
    rw [beq_eq_false_iff_ne]
    intro e
    rw [beq_iff_eq.mpr (sT_inj e)] at this
    exact this rfl
theorem ok_take_known {w : World} {K : PySem.W.Frag} {mg : Str → Option Value} {base : Heap} (T : Txt w K mg) : OKF w K mg base (L2N.CX prog w) 5 d_take_known ["reader", "names"] (sp_take_known K) := by
  refine okf_mk (k := 4) T 56 rfl sc_take_known rfl rfl (fun _ _ _ _ _ _ us hl => match us, hl with | [_, _], _ => rfl) sp2_len (fun f cdv A outer s H vs Q E hr h => ?_)
  refine ⟨_, (pss_cons (ps_asg (pe_ok (ok_take_word T) (hr.mono (by decide)) rfl T.g_take_word (L2N.passes_call (L2N.takes_of rfl rfl rfl rfl) fun _ _ _ _ h => h) (pa_cons (pv 0) pa_nil)) (pg_tup rfl (pgs_cons (pg_name (i := 2) sc_take_known.nd rfl (Or.inl rfl)) (pgs_cons (pg_name (i := 3) sc_take_known.nd rfl (Or.inl rfl)) pgs_nil))))
      (pss_cons (ps_expr (pe_ok (ok_need T) (hr.mono (by decide)) rfl T.g_need (L2N.passes_call (L2N.takes_of rfl rfl rfl rfl) fun _ _ _ _ h => h) (pa_cons (pe_cmpR (op_notIn_seq) (pv 3) (pe_gref rfl (T.g_KEYWORDS)) (by rfl)) (pa_cons (pv 2) (pa_cons (pe_gint rfl (T.int_UNEXPECTED)) pa_nil)))))
      (pss_cons (ps_expr (pe_ok (ok_need T) (hr.mono (by decide)) rfl T.g_need (L2N.passes_call (L2N.takes_of rfl rfl rfl rfl) fun _ _ _ _ h => h) (pa_cons (pe_cmpR (op_in_seq) (pv 3) (pv 1) (by rfl)) (pa_cons (pv 2) (pa_cons (pe_gint rfl (T.int_UNKNOWN)) pa_nil)))))
      (pss_one (ps_ret (pe_bm PySem.F.plainAttrs_list PySem.F.slot_list_index PySem.F.type_list_index mt_index (pv 1) (pa_cons (pv 3) pa_nil))))))), ?_⟩
  obtain ⟨_, _, rfl, r, l, names, rfl, rfl, R, hl, hQ⟩ := h
  refine ⟨_, rfl, _, rfl, r, rfl, R, ?_⟩
  unfold knownAt at hQ
  cases hn : Lrx9.readName r.rest r.len with
  | error f =>
    rw [hn] at hQ
    exact (show LineF K (SR r) H E f from hQ).sub fun _ z => z.elim
  | ok y =>
    obtain ⟨t, m⟩ := y
    rw [hn] at hQ
    simp only at hQ ⊢
    intro b H1 F1 R1 er1 hs1 tm k0
    have hl1 : H1 l = some (.lst (words names)) := F1.st _ _ hl fun z => absurd (show l = r.a from z).symm (R.nl hl)
    refine ⟨b, _, rfl, hs1, rfl, _, _, rfl, _, _, rfl, rfl, ?_⟩
    refine ⟨_, rfl, _, _, rfl, .inr (T.t_KEYWORDS _), rfl, kw_flat, ?_⟩
    rw [kw_not]
    refine ⟨_, rfl, _, _, _, rfl, !Lrx9.keywords.contains t.text, ⟨t.column, 3⟩, rfl, rfl, rfl, fun z => ?_, fun z => ?_⟩
    · have z' : Lrx9.keywords.contains t.text = false := by simpa using z
      rw [if_neg (by rw [z']; exact Bool.false_ne_true)] at hQ
      refine ⟨_, rfl, _, rfl, _, _, rfl, .inl (SqL.of hl1), rfl, flat_words _, ?_⟩
      rw [wd_yes]
      refine ⟨_, rfl, _, _, _, rfl, names.contains t.text, ⟨t.column, 4⟩, rfl, rfl, rfl, fun c => ?_, fun c => ?_⟩
      · rw [← mem_of_find] at c
        obtain ⟨i, hi⟩ := Option.isSome_iff_exists.mp c
        rw [hi] at hQ
        simp only at hQ
        obtain ⟨w1, w2⟩ := word_index hi
        exact ⟨_, rfl, .inl ⟨rfl, _, SqL.of hl1⟩, _, rfl, l, words names, _, i, _, rfl, rfl, SqL.of hl1, rfl, flat_words names, w1, beq_self_eq_true (sT t.text), w2, hQ H1 F1 R1 er1⟩
      · rw [← mem_of_find] at c
        have hi : names.findIdx? (fun y => y == t.text) = none := by
          cases e : names.findIdx? (fun y => y == t.text) with
          | none => rfl
          | some i => rw [e] at c; cases c
        rw [hi] at hQ
        exact ((show LineF K (SR r) H E _ from hQ).then F1.frm).sub fun _ z => z.elim
    · have z' : Lrx9.keywords.contains t.text = true := by simpa using z
      rw [if_pos z'] at hQ
      exact ((show LineF K (SR r) H E _ from hQ).then F1.frm).sub fun _ z => z.elim
def sp_take_place (K : PySem.W.Frag) : Sp := sp2 fun a b H Q E => ∃ (r : RD) (d : MD) (M : Lrx9.Model), a = .ref r.a ∧ b = .ref d.a ∧ RdO K H r ∧ MdO K H d M ∧ Qu.Wf M ∧
  match Lrx9.readPlace M r.rest r.len with
  | .error f => LineF K (SR r) H E f
  | .ok ((i, c), m) => ∀ b H', Fm (SR r) H H' → RdO K H' (r.go 2) → (r.go 2).rest = m → H' b = some (.tup [.int (i : Int), .int (c : Int)]) → i < M.stations.length → c < M.classes.length → Q (.ref b) H'
theorem Rds.up {S : Addr → Prop} {H H' : Hp} (h : Rds S H) (e : ∀ b o, H b = some o → H' b = some o) : Rds S H' := fun b s => by
  obtain ⟨C, dx, l, k, n, z⟩ := h b s
  exact ⟨C, dx, l, k, n, e _ _ z⟩
theorem LineF.goS {K : PySem.W.Frag} {r : RD} {H H1 : Hp} {E : XK} {f : Lrx9.Fault} (h : LineF K (SR r) H E f) (s : Fm (SR r) H H1) : LineF K (SR r) H1 E f := h.go s fun _ z => .inl z
theorem ok_take_place {w : World} {K : PySem.W.Frag} {mg : Str → Option Value} {base : Heap} (T : Txt w K mg) : OKF w K mg base (L2N.CX prog w) 6 d_take_place ["reader", "model"] (sp_take_place K) := by
  refine okf_mk (k := 5) T 57 rfl sc_take_place rfl rfl (fun _ _ _ _ _ _ us hl => match us, hl with | [_, _], _ => rfl) sp2_len (fun f cdv A outer s H vs Q E hr h => ?_)
  refine ⟨_, (pss_cons (ps_set (i := 2) sc_take_place.nd rfl (Or.inl rfl) (pe_ok (ok_take_known T) (hr.mono (by decide)) rfl T.g_take_known (L2N.passes_call (L2N.takes_of rfl rfl rfl rfl) fun _ _ _ _ h => h) (pa_cons (pv 0) (pa_cons (pe_ok (ok_station_names T) (hr.mono (by decide)) rfl T.g_station_names pass0 (pa_cons (pv 1) pa_nil)) pa_nil))))
      (pss_one (ps_ret (pe_tup (pa_cons (pv 2) (pa_cons (pe_ok (ok_take_known T) (hr.mono (by decide)) rfl T.g_take_known (L2N.passes_call (L2N.takes_of rfl rfl rfl rfl) fun _ _ _ _ h => h) (pa_cons (pv 0) (pa_cons (pe_fld (pv 1) rfl) pa_nil))) pa_nil)))))), ?_⟩
  obtain ⟨_, _, rfl, r, d, M, rfl, rfl, R, MO, wf, hQ⟩ := h
  refine ⟨_, rfl, _, rfl, _, rfl, d, M, rfl, MO, wf, fun b1 H1 s1 nb1 hb1 => ?_⟩
  have R1 := R.same s1
  have F1 : Fm (SR r) H H1 := s1.fm
  refine ⟨_, _, rfl, r, b1, _, rfl, rfl, R1, hb1, ?_⟩
  unfold Lrx9.readPlace at hQ
  rw [← known_station wf] at hQ
  cases hk : knownAt (M.stations.map fun s => s.name) r.rest r.len with
  | error f =>
    rw [hk] at hQ
    exact (show LineF K (SR r) H E f from hQ).goS F1
  | ok y =>
    obtain ⟨i, m⟩ := y
    rw [hk] at hQ
    simp only at hQ ⊢
    intro H2 F2 R2 er2
    have MO2 := (MO.same s1).fm F2 R1.rds
    have F02 := F1.trans F2
    refine ⟨_, rfl, _, rfl, _, rfl, _, _, _, _, _, rfl, MO2.ob, T.c_Model, T.n_Model_classes, rfl, _, _, rfl, r.go 1, d.cl, M.classes, rfl, rfl, R2, MO2.cl, ?_⟩
    rw [er2]
    rw [← known_class wf] at hQ
    show (match knownAt M.classes m r.len with | .error f => _ | .ok (i, m) => _)
    have iN : i < M.stations.length := by
      unfold knownAt at hk
      split at hk
      · cases hk
      · split at hk
        · cases hk
        · split at hk
          · cases hk
          · rename_i e
            cases hk
            have := (List.findIdx?_eq_some_iff_getElem.mp e).1
            simpa using this
    cases hc : knownAt M.classes m r.len with
    | error f =>
      rw [hc] at hQ
      exact (show LineF K (SR r) H E f from hQ).goS F02
    | ok y2 =>
      obtain ⟨c, m2⟩ := y2
      rw [hc] at hQ
      simp only at hQ ⊢
      intro H3 F3 R3 er3
      rw [go_go] at R3 er3
      have cN : c < M.classes.length := by
        unfold knownAt at hc
        split at hc
        · cases hc
        · split at hc
          · cases hc
          · split at hc
            · cases hc
            · rename_i e
              cases hc
              exact (List.findIdx?_eq_some_iff_getElem.mp e).1
      refine ⟨by show 2 ≤ sizeLine; decide, fun p hp => ?_⟩
      exact hQ p _ ((F02.trans F3).new hp) (R3.same (Same.new hp)) er3 upd_same iN cN
/-- tokens of a line -/
structure RdG (r : RD) : Prop where
  tok : ∀ t ∈ r.ts, Qu.TokOk t
  len : r.ts.length ≤ r.len
theorem RdG.go {r : RD} (h : RdG r) (n : Nat) : RdG (r.go n) := ⟨h.tok, h.len⟩
theorem RdG.fine {r : RD} (h : RdG r) {M : Lrx9.Model} (wf : Qu.Wf M) : Qu.Fine M r.rest := (wf.fine h.tok).drop r.k
theorem RdG.short {r : RD} (h : RdG r) : r.rest.length ≤ r.len := by
  unfold RD.rest
  rw [List.length_drop]
  have := h.len
  omega
def sp_take_value (K : PySem.W.Frag) : Sp := sp2 fun a b H Q E => ∃ (r : RD) (d : MD) (M : Lrx9.Model), a = .ref r.a ∧ b = .ref d.a ∧ RdO K H r ∧ MdO K H d M ∧ Qu.Wf M ∧ RdG r ∧
  match Lrx9.evaluate M r.len r.rest with
  | .error f => LineF K (SR r) H E f
  | .ok (q, m) => ∀ b x H' n, Fm (SR r) H H' → RdO K H' (r.go n) → (r.go n).rest = m → SqT K H' b [.int (Lrx9.columnOf r.rest r.len : Nat), x] → FrV K H' x q → Qu.Red q → Qu.Bd 6100 q → Q (.ref b) H'
theorem ok_take_value {w : World} {K : PySem.W.Frag} {mg : Str → Option Value} {base : Heap} (T : Txt w K mg) : OKF w K mg base (L2N.CX prog w) 8 d_take_value ["reader", "model"] (sp_take_value K) := by
  refine okf_mk (k := 7) T 58 rfl sc_take_value rfl rfl (fun _ _ _ _ _ _ us hl => match us, hl with | [_, _], _ => rfl) sp2_len (fun f cdv A outer s H vs Q E hr h => ?_)
  refine ⟨_, (pss_cons (ps_set (i := 2) sc_take_value.nd rfl (Or.inl rfl) (pe_ok (ok_column_next T) (hr.mono (by decide)) rfl T.g_column_next pass0 (pa_cons (pv 0) pa_nil)))
      (pss_one (ps_ret (pe_tup (pa_cons (pv 2) (pa_cons (pe_ok (ok_take_expression T) (hr.mono (by decide)) rfl T.g_take_expression (L2N.passes_call (L2N.takes_of rfl rfl rfl rfl) fun _ _ _ _ h => h) (pa_cons (pv 0) (pa_cons (pe_fld (pv 1) rfl) pa_nil))) pa_nil)))))), ?_⟩
  obtain ⟨_, _, rfl, r, d, M, rfl, rfl, R, MO, wf, G, hQ⟩ := h
  refine ⟨_, rfl, _, rfl, r, rfl, R, _, rfl, _, rfl, _, rfl, _, _, _, _, _, rfl, MO.ob, T.c_Model, T.n_Model_constants, rfl, _, _, rfl, r, M, d.co, rfl, rfl, R, MO.co, G.fine wf, G.short, ?_⟩
  cases he : Lrx9.evaluate M r.len r.rest with
  | error f =>
    rw [he] at hQ
    exact hQ
  | ok y =>
    obtain ⟨q, m⟩ := y
    rw [he] at hQ
    simp only at hQ ⊢
    intro v H1 n F1 fv R1 er1 rq bq
    refine ⟨by show 2 ≤ sizeLine; decide, fun p hp => ?_⟩
    have F1' : Fm (SR r) H H1 := F1
    exact hQ p v _ n (F1'.new hp) (R1.same (Same.new hp)) er1 (SqT.of upd_same) (fv.same (Same.new hp)) rq bq
def lastAt (M : Lrx9.Model) (rest : List Lrx9.Token) (len : Nat) : Except Lrx9.Fault Fr := match Lrx9.evaluate M len rest with
  | .error f => .error f
  | .ok (v, more) => match Lrx9.isNothingLeft more len with
    | .error f => .error f
    | .ok _ => .ok v
theorem last_eq (M : Lrx9.Model) (rest : List Lrx9.Token) (len : Nat) (test : Fr → Bool) : Lrx9.lastValue M rest len test = match lastAt M rest len with
    | .error f => .error f
    | .ok v => if (Lrx9.isShort v && test v) = true then .ok v else .error ⟨Lrx9.columnOf rest len, 7⟩ := by
  unfold Lrx9.lastValue lastAt
  cases Lrx9.evaluate M len rest with
  | error f => rfl
  | ok y =>
    simp only
    cases Lrx9.isNothingLeft y.2 len with
    | error f => rfl
    | ok _ => rfl
def sp_take_last_value (K : PySem.W.Frag) : Sp := sp2 fun a b H Q E => ∃ (r : RD) (d : MD) (M : Lrx9.Model), a = .ref r.a ∧ b = .ref d.a ∧ RdO K H r ∧ MdO K H d M ∧ Qu.Wf M ∧ RdG r ∧
  match lastAt M r.rest r.len with
  | .error f => LineF K (SR r) H E f
  | .ok q => ∀ b x H', Fm (SR r) H H' → SqT K H' b [.int (Lrx9.columnOf r.rest r.len : Nat), x] → FrV K H' x q → Qu.Red q → Qu.Bd 6100 q → Q (.ref b) H'
theorem ok_take_last_value {w : World} {K : PySem.W.Frag} {mg : Str → Option Value} {base : Heap} (T : Txt w K mg) : OKF w K mg base (L2N.CX prog w) 9 d_take_last_value ["reader", "model"] (sp_take_last_value K) := by
  refine okf_mk (k := 8) T 59 rfl sc_take_last_value rfl rfl (fun _ _ _ _ _ _ us hl => match us, hl with | [_, _], _ => rfl) sp2_len (fun f cdv A outer s H vs Q E hr h => ?_)
  refine ⟨_, (pss_cons (ps_set (i := 2) sc_take_last_value.nd rfl (Or.inl rfl) (pe_ok (ok_take_value T) (hr.mono (by decide)) rfl T.g_take_value (L2N.passes_call (L2N.takes_of rfl rfl rfl rfl) fun _ _ _ _ h => h) (pa_cons (pv 0) (pa_cons (pv 1) pa_nil))))
      (pss_cons (ps_expr (pe_ok (ok_take_end T) (hr.mono (by decide)) rfl T.g_take_end (L2N.passes_call (L2N.takes_of rfl rfl rfl rfl) fun _ _ _ _ h => h) (pa_cons (pv 0) pa_nil)))
      (pss_one (ps_ret (pv 2))))), ?_⟩
  obtain ⟨_, _, rfl, r, d, M, rfl, rfl, R, MO, wf, G, hQ⟩ := h
  refine ⟨_, rfl, _, rfl, _, _, rfl, r, d, M, rfl, rfl, R, MO, wf, G, ?_⟩
  unfold lastAt at hQ
  cases he : Lrx9.evaluate M r.len r.rest with
  | error f =>
    rw [he] at hQ
    exact hQ
  | ok y =>
    obtain ⟨q, m⟩ := y
    rw [he] at hQ
    simp only at hQ ⊢
    intro b x H1 n F1 R1 er1 hs fv rq bq
    refine ⟨_, rfl, _, rfl, r.go n, rfl, R1, ?_⟩
    rw [er1]
    show (match Lrx9.isNothingLeft m r.len with | .error f => _ | .ok _ => _)
    cases hl : Lrx9.isNothingLeft m r.len with
    | error f =>
      rw [hl] at hQ
      exact ((show LineF K (SR r) H E _ from hQ).then F1.frm).sub fun _ z => z.elim
    | ok _ =>
      rw [hl] at hQ
      exact ⟨_, rfl, hQ b x H1 F1 hs fv rq bq⟩
end Q
set_option Elab.async false
set_option linter.all false
set_option maxRecDepth 100000
set_option maxHeartbeats 4000000
namespace Q
open PySem PySem.Spec PyProof.Rows L2
theorem MdO.set_co {K : PySem.W.Frag} {H H' : Hp} {d : MD} {M : Lrx9.Model} {x : List (Lrx9.Name × Fr)} (h : MdO K H d M) (e : Fm (fun b => b = d.co) H H') (new : CoV K H' d.co x) : MdO K H' d { M with constants := x } := by
  obtain ⟨_, hp, -⟩ := id h.co
  have no : ∀ {b : Addr} {o : HO}, H b = some o → (∀ u, H d.co = some u → o ≠ u) → ¬ (b = d.co) := fun q n z => by
    subst z
    exact n _ q rfl
  have nd := h.n3
  simp only [List.nodup_cons, List.mem_cons, List.not_mem_nil, or_false, not_or, List.nodup_nil, and_true, not_false_eq_true] at nd
  refine ⟨e.st _ _ h.ob fun s => absurd s (no h.ob fun u hu z => by rw [hp] at hu; cases hu; cases z), ?_, ?_, ?_, ?_, ?_, ?_, ?_, ?_, h.n1, h.n2, h.n3⟩
  · exact new
  · exact e.st _ _ h.cl fun s => absurd s (no h.cl fun u hu z => by rw [hp] at hu; cases hu; cases z)
  · obtain ⟨_, h1, -⟩ := id h.st
    exact h.st.fm e (no h1 fun u hu z => by rw [hp] at hu; cases hu; cases z) fun b dx s hb => no hb fun u hu z => by rw [hp] at hu; cases hu; cases z
  · obtain ⟨_, _, h1, -⟩ := id h.sv
    exact h.sv.fm e (no h1 fun u hu z => by rw [hp] at hu; cases hu; cases z)
  · obtain ⟨_, _, h1, -⟩ := id h.ar
    exact h.ar.fm e (no h1 fun u hu z => by rw [hp] at hu; cases hu; cases z)
  · obtain ⟨_, _, h1, -⟩ := id h.ro
    exact h.ro.fm e (no h1 fun u hu z => by rw [hp] at hu; cases hu; cases z)
  · obtain ⟨_, _, h1, -⟩ := id h.le
    exact h.le.fm e (no h1 fun u hu z => by rw [hp] at hu; cases hu; cases z)
  · obtain ⟨_, _, h1, -⟩ := id h.po
    exact h.po.fm e h.n1.symm
theorem MdO.set_cl {K : PySem.W.Frag} {H H' : Hp} {d : MD} {M : Lrx9.Model} {x : List Lrx9.Name} (h : MdO K H d M) (e : Fm (fun b => b = d.cl) H H') (new : H' d.cl = some (.lst (words x))) : MdO K H' d { M with classes := x } := by
  have hp := h.cl
  have no : ∀ {b : Addr} {o : HO}, H b = some o → (∀ u, H d.cl = some u → o ≠ u) → ¬ (b = d.cl) := fun q n z => by
    subst z
    exact n _ q rfl
  have nd := h.n3
  simp only [List.nodup_cons, List.mem_cons, List.not_mem_nil, or_false, not_or, List.nodup_nil, and_true, not_false_eq_true] at nd
  refine ⟨e.st _ _ h.ob fun s => absurd s (no h.ob fun u hu z => by rw [hp] at hu; cases hu; cases z), ?_, ?_, ?_, ?_, ?_, ?_, ?_, ?_, h.n1, h.n2, h.n3⟩
  · obtain ⟨_, h1, -⟩ := id h.co
    exact h.co.fm e (no h1 fun u hu z => by rw [hp] at hu; cases hu; cases z)
  · exact new
  · obtain ⟨_, h1, -⟩ := id h.st
    exact h.st.fm e h.n2.symm fun b dx s hb => no hb fun u hu z => by rw [hp] at hu; cases hu; cases z
  · obtain ⟨_, _, h1, -⟩ := id h.sv
    exact h.sv.fm e (no h1 fun u hu z => by rw [hp] at hu; cases hu; cases z)
  · obtain ⟨_, _, h1, -⟩ := id h.ar
    exact h.ar.fm e (no h1 fun u hu z => by rw [hp] at hu; cases hu; cases z)
  · obtain ⟨_, _, h1, -⟩ := id h.ro
    exact h.ro.fm e (no h1 fun u hu z => by rw [hp] at hu; cases hu; cases z)
  · obtain ⟨_, _, h1, -⟩ := id h.le
    exact h.le.fm e (no h1 fun u hu z => by rw [hp] at hu; cases hu; cases z)
  · obtain ⟨_, _, h1, -⟩ := id h.po
    exact h.po.fm e (no h1 fun u hu z => by rw [hp] at hu; cases hu; cases z)
theorem MdO.set_st {K : PySem.W.Frag} {H H' : Hp} {d : MD} {M : Lrx9.Model} {x : List Lrx9.Station} (h : MdO K H d M) (e : Fm (fun b => b = d.st) H H') (new : LstV K H' d.st x) : MdO K H' d { M with stations := x } := by
  obtain ⟨_, hp, -⟩ := id h.st
  have no : ∀ {b : Addr} {o : HO}, H b = some o → (∀ u, H d.st = some u → o ≠ u) → ¬ (b = d.st) := fun q n z => by
    subst z
    exact n _ q rfl
  have nd := h.n3
  simp only [List.nodup_cons, List.mem_cons, List.not_mem_nil, or_false, not_or, List.nodup_nil, and_true, not_false_eq_true] at nd
  refine ⟨e.st _ _ h.ob fun s => absurd s (no h.ob fun u hu z => by rw [hp] at hu; cases hu; cases z), ?_, ?_, ?_, ?_, ?_, ?_, ?_, ?_, h.n1, h.n2, h.n3⟩
  · obtain ⟨_, h1, -⟩ := id h.co
    exact h.co.fm e (no h1 fun u hu z => by rw [hp] at hu; cases hu; cases z)
  · exact e.st _ _ h.cl fun s => absurd s h.n2
  · exact new
  · obtain ⟨_, _, h1, -⟩ := id h.sv
    exact h.sv.fm e (no h1 fun u hu z => by rw [hp] at hu; cases hu; cases z)
  · obtain ⟨_, _, h1, -⟩ := id h.ar
    exact h.ar.fm e (no h1 fun u hu z => by rw [hp] at hu; cases hu; cases z)
  · obtain ⟨_, _, h1, -⟩ := id h.ro
    exact h.ro.fm e (no h1 fun u hu z => by rw [hp] at hu; cases hu; cases z)
  · obtain ⟨_, _, h1, -⟩ := id h.le
    exact h.le.fm e (no h1 fun u hu z => by rw [hp] at hu; cases hu; cases z)
  · obtain ⟨_, _, h1, -⟩ := id h.po
    exact h.po.fm e (no h1 fun u hu z => by rw [hp] at hu; cases hu; cases z)
theorem MdO.set_sv {K : PySem.W.Frag} {H H' : Hp} {d : MD} {M : Lrx9.Model} {x : List Lrx9.Entry} (h : MdO K H d M) (e : Fm (fun b => b = d.sv) H H') (new : TabV K H' key2 d.sv x) : MdO K H' d { M with services := x } := by
  obtain ⟨_, _, hp, -⟩ := id h.sv
  have no : ∀ {b : Addr} {o : HO}, H b = some o → (∀ u, H d.sv = some u → o ≠ u) → ¬ (b = d.sv) := fun q n z => by
    subst z
    exact n _ q rfl
  have nd := h.n3
  simp only [List.nodup_cons, List.mem_cons, List.not_mem_nil, or_false, not_or, List.nodup_nil, and_true, not_false_eq_true] at nd
  refine ⟨e.st _ _ h.ob fun s => absurd s (no h.ob fun u hu z => by rw [hp] at hu; cases hu; cases z), ?_, ?_, ?_, ?_, ?_, ?_, ?_, ?_, h.n1, h.n2, h.n3⟩
  · obtain ⟨_, h1, -⟩ := id h.co
    exact h.co.fm e (no h1 fun u hu z => by rw [hp] at hu; cases hu; cases z)
  · exact e.st _ _ h.cl fun s => absurd s (no h.cl fun u hu z => by rw [hp] at hu; cases hu; cases z)
  · obtain ⟨_, h1, -⟩ := id h.st
    exact h.st.fm e (no h1 fun u hu z => by rw [hp] at hu; cases hu; cases z) fun b dx s hb => no hb fun u hu z => by rw [hp] at hu; cases hu; cases z
  · exact new
  · obtain ⟨_, _, h1, -⟩ := id h.ar
    exact h.ar.fm e (Ne.symm nd.1.1)
  · obtain ⟨_, _, h1, -⟩ := id h.ro
    exact h.ro.fm e (Ne.symm nd.1.2.1)
  · obtain ⟨_, _, h1, -⟩ := id h.le
    exact h.le.fm e (Ne.symm nd.1.2.2)
  · obtain ⟨_, _, h1, -⟩ := id h.po
    exact h.po.fm e (no h1 fun u hu z => by rw [hp] at hu; cases hu; cases z)
theorem MdO.set_ar {K : PySem.W.Frag} {H H' : Hp} {d : MD} {M : Lrx9.Model} {x : List Lrx9.Entry} (h : MdO K H d M) (e : Fm (fun b => b = d.ar) H H') (new : TabV K H' key2 d.ar x) : MdO K H' d { M with arrivals := x } := by
  obtain ⟨_, _, hp, -⟩ := id h.ar
  have no : ∀ {b : Addr} {o : HO}, H b = some o → (∀ u, H d.ar = some u → o ≠ u) → ¬ (b = d.ar) := fun q n z => by
    subst z
    exact n _ q rfl
  have nd := h.n3
  simp only [List.nodup_cons, List.mem_cons, List.not_mem_nil, or_false, not_or, List.nodup_nil, and_true, not_false_eq_true] at nd
  refine ⟨e.st _ _ h.ob fun s => absurd s (no h.ob fun u hu z => by rw [hp] at hu; cases hu; cases z), ?_, ?_, ?_, ?_, ?_, ?_, ?_, ?_, h.n1, h.n2, h.n3⟩
  · obtain ⟨_, h1, -⟩ := id h.co
    exact h.co.fm e (no h1 fun u hu z => by rw [hp] at hu; cases hu; cases z)
  · exact e.st _ _ h.cl fun s => absurd s (no h.cl fun u hu z => by rw [hp] at hu; cases hu; cases z)
  · obtain ⟨_, h1, -⟩ := id h.st
    exact h.st.fm e (no h1 fun u hu z => by rw [hp] at hu; cases hu; cases z) fun b dx s hb => no hb fun u hu z => by rw [hp] at hu; cases hu; cases z
  · obtain ⟨_, _, h1, -⟩ := id h.sv
    exact h.sv.fm e nd.1.1
  · exact new
  · obtain ⟨_, _, h1, -⟩ := id h.ro
    exact h.ro.fm e (Ne.symm nd.2.1.1)
  · obtain ⟨_, _, h1, -⟩ := id h.le
    exact h.le.fm e (Ne.symm nd.2.1.2)
  · obtain ⟨_, _, h1, -⟩ := id h.po
    exact h.po.fm e (no h1 fun u hu z => by rw [hp] at hu; cases hu; cases z)
theorem MdO.set_ro {K : PySem.W.Frag} {H H' : Hp} {d : MD} {M : Lrx9.Model} {x : List Lrx9.Entry} (h : MdO K H d M) (e : Fm (fun b => b = d.ro) H H') (new : TabV K H' key4 d.ro x) : MdO K H' d { M with routes := x } := by
  obtain ⟨_, _, hp, -⟩ := id h.ro
  have no : ∀ {b : Addr} {o : HO}, H b = some o → (∀ u, H d.ro = some u → o ≠ u) → ¬ (b = d.ro) := fun q n z => by
    subst z
    exact n _ q rfl
  have nd := h.n3
  simp only [List.nodup_cons, List.mem_cons, List.not_mem_nil, or_false, not_or, List.nodup_nil, and_true, not_false_eq_true] at nd
  refine ⟨e.st _ _ h.ob fun s => absurd s (no h.ob fun u hu z => by rw [hp] at hu; cases hu; cases z), ?_, ?_, ?_, ?_, ?_, ?_, ?_, ?_, h.n1, h.n2, h.n3⟩
  · obtain ⟨_, h1, -⟩ := id h.co
    exact h.co.fm e (no h1 fun u hu z => by rw [hp] at hu; cases hu; cases z)
  · exact e.st _ _ h.cl fun s => absurd s (no h.cl fun u hu z => by rw [hp] at hu; cases hu; cases z)
  · obtain ⟨_, h1, -⟩ := id h.st
    exact h.st.fm e (no h1 fun u hu z => by rw [hp] at hu; cases hu; cases z) fun b dx s hb => no hb fun u hu z => by rw [hp] at hu; cases hu; cases z
  · obtain ⟨_, _, h1, -⟩ := id h.sv
    exact h.sv.fm e nd.1.2.1
  · obtain ⟨_, _, h1, -⟩ := id h.ar
    exact h.ar.fm e nd.2.1.1
  · exact new
  · obtain ⟨_, _, h1, -⟩ := id h.le
    exact h.le.fm e (Ne.symm nd.2.2)
  · obtain ⟨_, _, h1, -⟩ := id h.po
    exact h.po.fm e (no h1 fun u hu z => by rw [hp] at hu; cases hu; cases z)
theorem MdO.set_le {K : PySem.W.Frag} {H H' : Hp} {d : MD} {M : Lrx9.Model} {x : List Lrx9.Entry} (h : MdO K H d M) (e : Fm (fun b => b = d.le) H H') (new : TabV K H' key2 d.le x) : MdO K H' d { M with leaving := x } := by
  obtain ⟨_, _, hp, -⟩ := id h.le
  have no : ∀ {b : Addr} {o : HO}, H b = some o → (∀ u, H d.le = some u → o ≠ u) → ¬ (b = d.le) := fun q n z => by
    subst z
    exact n _ q rfl
  have nd := h.n3
  simp only [List.nodup_cons, List.mem_cons, List.not_mem_nil, or_false, not_or, List.nodup_nil, and_true, not_false_eq_true] at nd
  refine ⟨e.st _ _ h.ob fun s => absurd s (no h.ob fun u hu z => by rw [hp] at hu; cases hu; cases z), ?_, ?_, ?_, ?_, ?_, ?_, ?_, ?_, h.n1, h.n2, h.n3⟩
  · obtain ⟨_, h1, -⟩ := id h.co
    exact h.co.fm e (no h1 fun u hu z => by rw [hp] at hu; cases hu; cases z)
  · exact e.st _ _ h.cl fun s => absurd s (no h.cl fun u hu z => by rw [hp] at hu; cases hu; cases z)
  · obtain ⟨_, h1, -⟩ := id h.st
    exact h.st.fm e (no h1 fun u hu z => by rw [hp] at hu; cases hu; cases z) fun b dx s hb => no hb fun u hu z => by rw [hp] at hu; cases hu; cases z
  · obtain ⟨_, _, h1, -⟩ := id h.sv
    exact h.sv.fm e nd.1.2.2
  · obtain ⟨_, _, h1, -⟩ := id h.ar
    exact h.ar.fm e nd.2.1.2
  · obtain ⟨_, _, h1, -⟩ := id h.ro
    exact h.ro.fm e nd.2.2
  · exact new
  · obtain ⟨_, _, h1, -⟩ := id h.po
    exact h.po.fm e (no h1 fun u hu z => by rw [hp] at hu; cases hu; cases z)
theorem MdO.set_po {K : PySem.W.Frag} {H H' : Hp} {d : MD} {M : Lrx9.Model} {x : List Lrx9.Entry} (h : MdO K H d M) (e : Fm (fun b => b = d.po) H H') (new : PopV H' d.po x) : MdO K H' d { M with populations := x } := by
  obtain ⟨_, _, hp, -⟩ := id h.po
  have no : ∀ {b : Addr} {o : HO}, H b = some o → (∀ u, H d.po = some u → o ≠ u) → ¬ (b = d.po) := fun q n z => by
    subst z
    exact n _ q rfl
  have nd := h.n3
  simp only [List.nodup_cons, List.mem_cons, List.not_mem_nil, or_false, not_or, List.nodup_nil, and_true, not_false_eq_true] at nd
  refine ⟨e.st _ _ h.ob fun s => absurd s (no h.ob fun u hu z => by rw [hp] at hu; cases hu; cases z), ?_, ?_, ?_, ?_, ?_, ?_, ?_, ?_, h.n1, h.n2, h.n3⟩
  · obtain ⟨_, h1, -⟩ := id h.co
    exact h.co.fm e h.n1
  · exact e.st _ _ h.cl fun s => absurd s (no h.cl fun u hu z => by rw [hp] at hu; cases hu; cases z)
  · obtain ⟨_, h1, -⟩ := id h.st
    exact h.st.fm e (no h1 fun u hu z => by rw [hp] at hu; cases hu; cases z) fun b dx s hb => no hb fun u hu z => by rw [hp] at hu; cases hu; cases z
  · obtain ⟨_, _, h1, -⟩ := id h.sv
    exact h.sv.fm e (no h1 fun u hu z => by rw [hp] at hu; cases hu; cases z)
  · obtain ⟨_, _, h1, -⟩ := id h.ar
    exact h.ar.fm e (no h1 fun u hu z => by rw [hp] at hu; cases hu; cases z)
  · obtain ⟨_, _, h1, -⟩ := id h.ro
    exact h.ro.fm e (no h1 fun u hu z => by rw [hp] at hu; cases hu; cases z)
  · obtain ⟨_, _, h1, -⟩ := id h.le
    exact h.le.fm e (no h1 fun u hu z => by rw [hp] at hu; cases hu; cases z)
  · exact new
/-! ### tables change -/
section
variable {K : PySem.W.Frag} {w : World} {key : Lrx9.Entry → List Key} {P : Lrx9.Entry → Prop}
theorem KeyOk.iff {e x : Lrx9.Entry} (ok : KeyOk w key P) (sm : ∀ e, P e → Qu.Sm e) (hx : P x) (he : P e) : (key x = key e) ↔ Lrx9.samePlace x e = true := by
  rw [Qu.same_iff (sm x hx) (sm e he)]
  exact ⟨fun h => ok.inj x e hx he (by rw [h]), fun h => ok.at_ x e hx he h⟩
theorem pair_any {F : List Key × V → Lrx9.Entry → Prop} (hF : ∀ kv e, F kv e → kv.1 = key e) (ok : KeyOk w key P) (sm : ∀ e, P e → Qu.Sm e) {e : Lrx9.Entry} (he : P e) : ∀ {kvs : List (List Key × V)} {es : List Lrx9.Entry}, Paired F kvs es → (∀ x ∈ es, P x) → (kvs.any fun kv => decide (kv.1 = key e)) = es.any fun x => Lrx9.samePlace x e
  | _, _, .nil, _ => rfl
  | kv :: kvs, x :: es, .cons h r, hp => by
    rw [List.any_cons, List.any_cons, pair_any hF ok sm he r fun y hy => hp y (List.mem_cons_of_mem _ hy)]
    congr 1
    rw [hF _ _ h, Bool.eq_iff_iff, decide_eq_true_iff]
    exact ok.iff sm (hp x List.mem_cons_self) he
theorem pair_drop {F : List Key × V → Lrx9.Entry → Prop} (hF : ∀ kv e, F kv e → kv.1 = key e) (ok : KeyOk w key P) (sm : ∀ e, P e → Qu.Sm e) {e : Lrx9.Entry} (he : P e) : ∀ {kvs : List (List Key × V)} {es : List Lrx9.Entry}, Paired F kvs es → (∀ x ∈ es, P x) → Paired F (dropK kvs (key e)) (Qu.cutE e es)
  | _, _, .nil, _ => .nil
  | kv :: kvs, x :: es, .cons h r, hp => by
    have ih := pair_drop hF ok sm he r fun y hy => hp y (List.mem_cons_of_mem _ hy)
    unfold dropK Qu.cutE at ih ⊢
    have iff := ok.iff sm (hp x List.mem_cons_self) he
    rw [← hF _ _ h] at iff
    by_cases c : kv.1 = key e
    · rw [List.filter_cons_of_neg (by simp [c]), List.filter_cons_of_neg (by simp [iff.mp c])]
      exact ih
    · have c' : Lrx9.samePlace x e = false := by
        cases q : Lrx9.samePlace x e with
        | false => rfl
        | true => exact absurd (iff.mpr q) c
      rw [List.filter_cons_of_pos (by simp [c]), List.filter_cons_of_pos (by simp [c'])]
      exact .cons h ih
theorem pair_put {F : List Key × V → Lrx9.Entry → Prop} (hF : ∀ kv e, F kv e → kv.1 = key e) (ok : KeyOk w key P) (sm : ∀ e, P e → Qu.Sm e) {e : Lrx9.Entry} (he : P e) {v : V} (new : ∀ k, k = key e → F (k, v) e) : ∀ {kvs : List (List Key × V)} {es : List Lrx9.Entry}, Paired F kvs es → (∀ x ∈ es, P x) →
    Paired F (kvs.map fun kv => if kv.1 = key e then (kv.1, v) else kv) (es.map fun x => if Lrx9.samePlace x e = true then e else x)
  | _, _, .nil, _ => .nil
  | kv :: kvs, x :: es, .cons h r, hp => by
    have ih := pair_put hF ok sm he new r fun y hy => hp y (List.mem_cons_of_mem _ hy)
    have iff := ok.iff sm (hp x List.mem_cons_self) he
    rw [← hF _ _ h] at iff
    rw [List.map_cons, List.map_cons]
    refine .cons ?_ ih
    by_cases c : kv.1 = key e
    · rw [if_pos c, if_pos (iff.mp c)]
      exact new _ c
    · rw [if_neg c, if_neg (fun q => c (iff.mpr q))]
      exact h
theorem pair_set {F : List Key × V → Lrx9.Entry → Prop} (hF : ∀ kv e, F kv e → kv.1 = key e) (ok : KeyOk w key P) (sm : ∀ e, P e → Qu.Sm e) {e : Lrx9.Entry} (he : P e) {v : V} (new : ∀ k, k = key e → F (k, v) e) {kvs : List (List Key × V)} {es : List Lrx9.Entry} (p : Paired F kvs es) (hp : ∀ x ∈ es, P x) :
    Paired F (putK kvs (key e) v) (Qu.setE e es) := by
  unfold putK Qu.setE
  rw [pair_any hF ok sm he p hp]
  split
  · exact pair_put hF ok sm he new p hp
  · exact paired_snoc (new _ rfl) p
end
def sp_set_value (K : PySem.W.Frag) : Sp := sp5 fun a b c d e H Q E => ∃ (t pb : Addr) (w : World) (key : Lrx9.Entry → List Key) (P : Lrx9.Entry → Prop) (l : List Lrx9.Entry) (en : Lrx9.Entry) (col : Nat) (once : Bool), a = .ref t ∧ b = .ref pb ∧ d = .int (col : Int) ∧ e = .bl once ∧
  TabV K H key t l ∧ H pb = some (.tup ((key en).map kV)) ∧ FrV K H c en.value ∧ KeyOk w key P ∧ (∀ e, P e → Qu.Sm e) ∧ Qu.EnOk P l ∧ P en ∧ Qu.Red en.value ∧
  match Lrx9.addEntry (!once) col en l with
  | .error f => LineS K H E f
  | .ok l' => ∀ H', Fm (fun y => y = t) H H' → TabV K H' key t l' → Q .non H'
theorem any_perm {es l : List Lrx9.Entry} (p : es.Perm l) (f : Lrx9.Entry → Bool) : es.any f = l.any f := by
  rw [Bool.eq_iff_iff, List.any_eq_true, List.any_eq_true]
  exact ⟨fun ⟨x, h, q⟩ => ⟨x, p.subset h, q⟩, fun ⟨x, h, q⟩ => ⟨x, p.symm.subset h, q⟩⟩
theorem ok_set_value {w : World} {K : PySem.W.Frag} {mg : Str → Option Value} {base : Heap} (T : Txt w K mg) : OKF w K mg base (L2N.CX prog w) 4 d_set_value ["values", "place", "value", "keyword", "is_once"] (sp_set_value K) := by
  refine okf_mk (k := 3) T 64 rfl sc_set_value rfl rfl (fun _ _ _ _ _ _ us hl => match us, hl with | [_, _, _, _, _], _ => rfl) sp5_len (fun f cdv A outer s H vs Q E hr h => ?_)
  have hu := hu_of hr
  have hu64 := hr.units
  refine ⟨_, (pss_cons (ps_expr (pe_ok (ok_need T) (hr.mono (by decide)) rfl T.g_need (L2N.passes_call (L2N.takes_of rfl rfl rfl rfl) fun _ _ _ _ h => h) (pa_cons (pe_or (pe_not (pv 4)) (pe_one (pe_cmp (pc_dnotin hu (pv 1) (pv 0))))) (pa_cons (pv 3) (pa_cons (pe_gint rfl (T.int_KNOWN)) pa_nil)))))
      (pss_one (ps_if (pt_cmpR op_eq (pe_ix ix_tup (pv 2) pe_int (fun _ _ => rfl)) pe_int (nomark _)) (pss_one (ps_expr (pe_bm PySem.F.plainAttrs_dict PySem.F.slot_dict_pop PySem.F.type_dict_pop (DX.mt_popT hu) (pv 0) (pa_cons (pv 1) (pa_cons pe_non pa_nil)))))
      (pss_one (ps_dput hu (pv 0) (pv 1) (pv 2) rfl))))), ?_⟩
  obtain ⟨_, _, c, _, _, rfl, t, pb, w', key, P, l, en, col, once, rfl, rfl, rfl, rfl, ⟨kvs, es, ht, hp, pm⟩, hpb, hc, ok, sm, eo, hen, red, hQ⟩ := h
  have hP : ∀ x ∈ es, P x := fun x hx => eo.rg x (pm.subset hx)
  have any := pair_any (fun _ _ z => z.1) ok sm hen hp hP
  rw [any_perm pm, valV_any] at any
  have needs : ∀ (k : Bool), k = (!once || !(l.any fun x => Lrx9.samePlace x en)) → (k = true → Lrx9.addEntry (!once) col en l = .ok (Lrx9.putEntry en l)) ∧ (k = false → Lrx9.addEntry (!once) col en l = .error ⟨col, 5⟩) := by
    rintro k rfl
    unfold Lrx9.addEntry
    cases once with
    | false => exact ⟨fun _ => rfl, fun z => (by cases z)⟩
    | true =>
      cases (l.any fun x => Lrx9.samePlace x en) with
      | false => exact ⟨fun _ => rfl, fun z => (by cases z)⟩
      | true => exact ⟨fun z => (by cases z), fun _ => rfl⟩
  have go : (!once || !(l.any fun x => Lrx9.samePlace x en)) = true → ∀ H', Fm (fun y => y = t) H H' → TabV K H' key t (Lrx9.putEntry en l) → Q .non H' := fun z => by
    rw [(needs _ rfl).1 z] at hQ
    exact hQ
  have bad : (!once || !(l.any fun x => Lrx9.samePlace x en)) = false → LineS K H E ⟨col, 5⟩ := fun z => by
    rw [(needs _ rfl).2 z] at hQ
    exact hQ
  have size : kvs.length < sizeLine := by
    rw [paired_len hp, pm.length_eq]
    exact Nat.lt_of_le_of_lt (eo.ord sm).len (by decide)
  obtain ⟨av, rfl, hv⟩ := id hc
  have num0 : decide (V.int en.value.num = V.int 0) = decide (en.value = Lrx1.zero) := by
    refine decide_eq_decide.mpr ⟨fun z => ?_, fun z => by rw [z]; rfl⟩
    injection z with z
    exact (Qu.red_zero_iff red).mpr z
  clear needs hQ
  refine ⟨_, rfl, _, rfl, _, rfl, ?_⟩
  have key2 : ∀ (Hq : (!once || !(l.any fun x => Lrx9.samePlace x en)) = true), tIfS (tTest (tOp rEq (tOp (rIxT K) (tVar 2) (tC (.int 0))) (tC (.int 0)))) (tDrop (tBM K "dict" DX.rPopT (tVar 0) (tCons (tVar 1) (tCons (tC .non) tNil)))) (sDPut (tVar 0) (tVar 1) (tVar 2))
      { nx := fun x H' => Q V.non H', rt := Q } [some (.ref t), some (.ref pb), some (.ref av), some (.int (col : Int)), some (.bl once)] H := fun z => by
    have g := go z
    refine ⟨_, rfl, _, _, _, _, rfl, rfl, hv, at0, rfl, _, rfl, ?_⟩
    rw [num0]
    have pp := Qu.put_perm (sm en hen) (eo.ord sm) pm
    unfold Qu.putT at pp
    refine ite2 (fun c => ?_) (fun c => ?_)
    · rw [if_pos (of_decide_eq_true c)] at pp
      have pd := pair_drop (fun _ _ z => z.1) ok sm hen hp hP
      refine ⟨_, rfl, .inr (.inr (.inl ⟨rfl, .inr ⟨_, ht⟩⟩)), _, rfl, t, kvs, key en, pb, _, rfl, rfl, ht, hpb, fun v hv => ?_, fun hn => ?_⟩
      · have F : Fm (fun y => y = t) H (upd H t (.dT (dropK kvs (key en)))) := (Fm.refl H).put ht id (.inr rfl)
        exact g _ F ⟨_, _, upd_same, paired_imp (fun _ _ z => ⟨z.1, F.frv z.2⟩) pd, pp⟩
      · rw [hn] at any
        have ec : Qu.cutE en es = es := Qu.cut_of_none (by rw [any_perm pm, ← any]; exact Bool.false_ne_true)
        rw [ec] at pp
        exact g _ (Fm.refl H) ⟨kvs, es, ht, hp, pp⟩
    · rw [if_neg (fun z => c (decide_eq_true z))] at pp
      refine ⟨_, rfl, _, rfl, _, rfl, t, _, rfl, DPut.t ht hpb size, ?_⟩
      have F : Fm (fun y => y = t) H (upd H t (.dT (putK kvs (key en) (.ref av)))) := (Fm.refl H).put ht id (.inr rfl)
      have hp' := paired_imp (G := fun (kv : List Key × V) (e : Lrx9.Entry) => kv.1 = key e ∧ FrV K (upd H t (.dT (putK kvs (key en) (.ref av)))) kv.2 e.value) (fun _ _ z => ⟨z.1, F.frv z.2⟩) hp
      have ps := pair_set (F := fun (kv : List Key × V) (e : Lrx9.Entry) => kv.1 = key e ∧ FrV K (upd H t (.dT (putK kvs (key en) (.ref av)))) kv.2 e.value) (fun _ _ z => z.1) ok sm hen (v := .ref av) (fun k hk => ⟨hk, F.frv hc⟩) hp' hP
      exact g _ F ⟨_, _, upd_same, ps, pp⟩
  cases once with
  | false =>
    refine iteT ⟨_, rfl, _, _, _, rfl, true, ⟨col, 5⟩, rfl, rfl, rfl, fun _ => key2 rfl, fun z => Bool.noConfusion z⟩
  | true =>
    refine iteF ⟨_, rfl, _, rfl, t, _, rfl, DGet.t ht hpb, ?_⟩
    rw [any]
    exact ⟨_, rfl, _, _, _, rfl, !(l.any fun x => Lrx9.samePlace x en), ⟨col, 5⟩, rfl, rfl, rfl, fun z => key2 (by rw [z]; rfl), fun z => bad (by rw [z]; rfl)⟩
end Q
set_option Elab.async false
set_option linter.all false
set_option maxRecDepth 100000
set_option maxHeartbeats 4000000
namespace Q
open PySem PySem.Spec PyProof.Rows L2
theorem w_eq : ("=" : Str) = sT [61] := by decide +kernel
def CT (d : MD) : Addr → Prop := fun b => b ∈ [d.co, d.cl, d.st, d.sv, d.ar, d.ro, d.le, d.po]
def ST (r : RD) (d : MD) : Addr → Prop := fun b => b = r.a ∨ CT d b
theorem rest_go (r : RD) (n : Nat) : (r.go n).rest = r.rest.drop n := by
  unfold RD.rest RD.go
  rw [List.drop_drop]
theorem LineF.less {K : PySem.W.Frag} {r : RD} {H H1 : Hp} {E : XK} {f : Lrx9.Fault} (h : LineF K (SR r) H E f) (s : Fm (SR r) H H1) : LineS K H1 E f := h.go s fun _ z => z.elim
/-- a promise that a statement is done -/
def GivesM (K : PySem.W.Frag) (H : Hp) (r : RD) (d : MD) (Q : VK) (E : XK) : Except Lrx9.Fault Lrx9.Model → Prop
  | .error f => LineF K (SR r) H E f
  | .ok M' => ∀ H', Fm (ST r d) H H' → MdO K H' d M' → Q .non H'
def sp_define_constant (K : PySem.W.Frag) : Sp := sp3 fun a b c H Q E => ∃ (r : RD) (d : MD) (M : Lrx9.Model) (col : Nat), a = .ref r.a ∧ b = .ref d.a ∧ c = .int (col : Int) ∧ RdO K H r ∧ MdO K H d M ∧ Qu.Wf M ∧ RdG r ∧ GivesM K H r d Q E (Qu.stLet M r.rest r.len col)
theorem co_absent {K : PySem.W.Frag} {H : Hp} {n : List Nat} {kvs : List (Key × V)} {cs : List (Lrx9.Name × Fr)} (h : Paired (fun (kv : Key × V) (c : Lrx9.Name × Fr) => kv.1 = Sum.inr (sT c.1) ∧ FrV K H kv.2 c.2) kvs cs) (e : ((cs.find? fun e => e.1 == n).map fun e => e.2) = none) {v : V} : putK kvs (Sum.inr (sT n)) v = kvs ++ [(Sum.inr (sT n), v)] := by
  unfold putK
  rcases co_find (n := n) h with ⟨n1, -⟩ | ⟨v, q, -, n2, -⟩
  · rw [valV_any, n1]
    exact if_neg Bool.false_ne_true
  · rw [e] at n2; cases n2
theorem new_absent {M : Lrx9.Model} {rest more : List Lrx9.Token} {len : Nat} {n : List Nat} (h : Lrx9.newName M rest len = .ok (n, more)) : Lrx9.constantOf M n = none := by
  unfold Lrx9.newName at h
  split at h
  · cases h
  · split at h
    · cases h
    · rename_i c
      cases h
      unfold Lrx9.isDefined at c
      have c' : (Lrx9.keywords.contains (_ : List Nat) || _) = false := Bool.eq_false_iff.mpr c
      have c2 := (Bool.or_eq_false_iff.mp (Bool.or_eq_false_iff.mp c').2).1
      cases e : Lrx9.constantOf M _ with
      | none => rfl
      | some v => rw [e] at c2; cases c2
theorem last_split (M : Lrx9.Model) (rest : List Lrx9.Token) (len : Nat) (test : Fr → Bool) : Lrx9.lastValue M rest len test = match lastAt M rest len with
    | .error f => .error f
    | .ok v => if (Lrx9.isShort v && test v) = true then .ok v else .error ⟨Lrx9.columnOf rest len, 7⟩ := last_eq M rest len test
theorem ok_define_constant {w : World} {K : PySem.W.Frag} {mg : Str → Option Value} {base : Heap} (T : Txt w K mg) : OKF w K mg base (L2N.CX prog w) 10 d_define_constant ["reader", "model", "keyword"] (sp_define_constant K) := by
  refine okf_mk (k := 9) T 60 rfl sc_define_constant rfl rfl (fun _ _ _ _ _ _ us hl => match us, hl with | [_, _, _], _ => rfl) sp3_len (fun f cdv A outer s H vs Q E hr h => ?_)
  have hu := hu_of hr
  have hu64 := hr.units
  refine ⟨_, (pss_cons (ps_set (i := 3) sc_define_constant.nd rfl (Or.inl rfl) (pe_ok (ok_take_new_name T) (hr.mono (by decide)) rfl T.g_take_new_name (L2N.passes_call (L2N.takes_of rfl rfl rfl rfl) fun _ _ _ _ h => h) (pa_cons (pv 0) (pa_cons (pv 1) pa_nil))))
      (pss_cons (ps_expr (pe_ok (ok_need T) (hr.mono (by decide)) rfl T.g_need (L2N.passes_call (L2N.takes_of rfl rfl rfl rfl) fun _ _ _ _ h => h) (pa_cons (pe_ok (ok_take_if T) (hr.mono (by decide)) rfl T.g_take_if pass0 (pa_cons (pv 0) (pa_cons (pe_gint rfl (T.int_SYMBOL)) (pa_cons pe_str pa_nil)))) (pa_cons (pe_ok (ok_column_next T) (hr.mono (by decide)) rfl T.g_column_next pass0 (pa_cons (pv 0) pa_nil)) (pa_cons (pe_gint rfl (T.int_UNEXPECTED)) pa_nil)))))
      (pss_cons (ps_asg (pe_ok (ok_take_last_value T) (hr.mono (by decide)) rfl T.g_take_last_value (L2N.passes_call (L2N.takes_of rfl rfl rfl rfl) fun _ _ _ _ h => h) (pa_cons (pv 0) (pa_cons (pv 1) pa_nil))) (pg_tup rfl (pgs_cons (pg_name (i := 4) sc_define_constant.nd rfl (Or.inl rfl)) (pgs_cons (pg_name (i := 5) sc_define_constant.nd rfl (Or.inl rfl)) pgs_nil))))
      (pss_cons (ps_expr (pe_ok (ok_need T) (hr.mono (by decide)) rfl T.g_need (L2N.passes_call (L2N.takes_of rfl rfl rfl rfl) fun _ _ _ _ h => h) (pa_cons (pe_ok (ok_is_near T) (hr.mono (by decide)) rfl T.g_is_near pass0 (pa_cons (pv 5) pa_nil)) (pa_cons (pv 4) (pa_cons (pe_gint rfl (T.int_OUT_OF_RANGE_statements)) pa_nil)))))
      (pss_cons (ps_expr (pe_ok (ok_need T) (hr.mono (by decide)) rfl T.g_need (L2N.passes_call (L2N.takes_of rfl rfl rfl rfl) fun _ _ _ _ h => h) (pa_cons (pe_cmpR op_lt (pe_callB call_lenD rfl T.f_len boot_len (pa_cons (pe_fld (pv 1) rfl) pa_nil)) (pe_gint rfl (T.int_MOST_CONSTANTS)) (nomark _)) (pa_cons (pv 2) (pa_cons (pe_gint rfl (T.int_TOO_MANY)) pa_nil)))))
      (pss_one (ps_dput hu (pe_fld (pv 1) rfl) (pv 3) (pv 5) rfl))))))), ?_⟩
  obtain ⟨_, _, _, rfl, r, d, M, col, rfl, rfl, rfl, R, MO, wf, G, hQ⟩ := h
  refine ⟨_, rfl, _, rfl, _, _, rfl, r, d, M, rfl, rfl, R, MO, wf, G.tok, ?_⟩
  unfold Qu.stLet at hQ
  cases hn : Lrx9.newName M r.rest r.len with
  | error f =>
    rw [hn] at hQ
    exact hQ
  | ok y =>
    obtain ⟨name, more⟩ := y
    rw [hn] at hQ
    simp only at hQ ⊢
    intro H1 F1 R1 er1 nm
    have MO1 := MO.fm F1 R.rds
    refine ⟨_, rfl, _, _, _, rfl, r.go 1, 2, [61], rfl, R1, rfl, by decide, congrArg V.str w_eq, fun H2 e2 => ?_⟩
    rw [er1] at e2 ⊢
    have es : isAt more 2 [61] = Lrx9.isSymbolAt more 61 := by cases more <;> rfl
    rw [es] at e2 ⊢
    cases c1 : Lrx9.isSymbolAt more 61 with
    | false =>
      rw [c1, if_neg Bool.false_ne_true] at e2
      rw [show H2 = H1 from e2.trans R1.go0]
      rw [c1] at hQ
      refine ⟨_, rfl, _, rfl, r.go 1, rfl, R1, _, _, _, rfl, false, ⟨Lrx9.columnOf more r.len, 3⟩, rfl, by rw [er1]; rfl, rfl, fun z => Bool.noConfusion z, fun _ => ?_⟩
      exact (show LineF K (SR r) H E _ from hQ).less F1
    | true =>
      rw [c1, if_pos rfl] at e2
      rw [c1] at hQ
      simp only [Bool.not_true, Bool.false_eq_true, if_false] at hQ
      obtain ⟨tk, mr, em⟩ : ∃ tk mr, more = tk :: mr := by
        cases more with
        | nil => cases c1
        | cons tk mr => exact ⟨tk, mr, rfl⟩
      obtain ⟨-, -, -, -, -, -, -, rest1, le1⟩ := R1.cons (er1.trans em)
      have R2 : RdO K H2 (r.go 2) := by
        have := R1.go le1
        rw [go_go] at this
        have e3 : H2 = goH K H1 (r.go 2) := by
          rw [e2, go_go]
          rfl
        rw [e3]
        exact this
      have F2 : Fm (SR r) H1 H2 := e2 ▸ go_fm (K := K) (r := r.go 1) (r' := (r.go 1).go 1) R1 rfl
      have er2 : (r.go 2).rest = more.drop 1 := by rw [← er1, ← rest_go, go_go]
      clear e2
      have MO2 := MO1.fm F2 (show Rds (SR r) H1 from R1.rds)
      have F02 := F1.trans F2
      refine ⟨_, rfl, _, rfl, r.go 2, rfl, R2, _, _, _, rfl, true, ⟨Lrx9.columnOf (r.go 2).rest r.len, 3⟩, rfl, rfl, rfl, fun _ => ?_, fun z => Bool.noConfusion z⟩
      refine ⟨_, rfl, _, rfl, _, _, rfl, r.go 2, d, M, rfl, rfl, R2, MO2, wf, G.go 2, ?_⟩
      rw [er2]
      show (match lastAt M (more.drop 1) r.len with | .error f => _ | .ok q => _)
      rw [last_split] at hQ
      cases hl : lastAt M (more.drop 1) r.len with
      | error f =>
        rw [hl] at hQ
        exact (show LineF K (SR r) H E _ from hQ).goS F02
      | ok q =>
        rw [hl] at hQ
        simp only [Bool.and_true] at hQ ⊢
        intro b x H3 F3 hs fv rq bq
        have MO3 := MO2.fm (S := SR r) F3 (show Rds (SR r) H2 from R2.rds)
        have F03 := F02.trans (show Fm (SR r) H2 H3 from F3)
        refine ⟨b, _, rfl, hs, rfl, _, _, rfl, _, _, rfl, rfl, ?_⟩
        refine ⟨_, rfl, _, rfl, q, fv, _, rfl, _, _, _, rfl, Lrx9.isShort q, ⟨Lrx9.columnOf (more.drop 1) r.len, 7⟩, rfl, rfl, rfl, fun z => ?_, fun z => ?_⟩
        · rw [if_pos z] at hQ
          simp only at hQ
          obtain ⟨kvs, hc, hp⟩ := MO3.co
          refine ⟨_, rfl, _, _, _, _, _, rfl, MO3.ob, T.c_Model, T.n_Model_constants, rfl, _, kvs, rfl, hc, _, _, rfl, rfl, _, rfl, _, _, _, rfl, decide ((kvs.length : Int) < 16), ⟨col, 8⟩, rfl, rfl, rfl, fun z2 => ?_, fun z2 => ?_⟩
          · have l := of_decide_eq_true z2
            rw [paired_len hp] at l
            rw [if_neg (by simp only [Lrx9.maxConstants]; omega)] at hQ
            refine ⟨_, rfl, _, rfl, _, _, _, _, _, rfl, MO3.ob, T.c_Model, T.n_Model_constants, rfl, _, rfl, d.co, _, rfl, DPut.k (k := Sum.inr (sT name)) hc (Nat.lt_of_lt_of_le (show kvs.length < 16 by rw [paired_len hp]; omega) (by decide)), ?_⟩
            rw [co_absent hp (new_absent hn)]
            have F4 : Fm (fun y => y = d.co) H3 (upd H3 d.co (.dK (kvs ++ [(Sum.inr (sT name), x)]))) := (Fm.refl H3).put hc id (.inr rfl)
            refine hQ _ ((F03.imp fun _ z => .inl z).trans (F4.imp fun _ z => .inr (by rw [show _ = d.co from z]; exact List.mem_cons_self))) ?_
            exact MO3.set_co F4 ⟨_, upd_same, paired_snoc ⟨rfl, F4.frv fv⟩ (paired_imp (fun _ _ z => ⟨z.1, F4.frv z.2⟩) hp)⟩
          · have l := of_decide_eq_false z2
            rw [paired_len hp] at l
            rw [if_pos (by simp only [Lrx9.maxConstants]; omega)] at hQ
            exact (show LineF K (SR r) H E _ from hQ).less F03
        · rw [if_neg (by rw [z]; exact Bool.false_ne_true)] at hQ
          exact (show LineF K (SR r) H E _ from hQ).less F03
def sp_define_class (K : PySem.W.Frag) : Sp := sp3 fun a b c H Q E => ∃ (r : RD) (d : MD) (M : Lrx9.Model) (col : Nat), a = .ref r.a ∧ b = .ref d.a ∧ c = .int (col : Int) ∧ RdO K H r ∧ MdO K H d M ∧ Qu.Wf M ∧ RdG r ∧ GivesM K H r d Q E (Qu.stClass M r.rest r.len col)
theorem ok_define_class {w : World} {K : PySem.W.Frag} {mg : Str → Option Value} {base : Heap} (T : Txt w K mg) : OKF w K mg base (L2N.CX prog w) 6 d_define_class ["reader", "model", "keyword"] (sp_define_class K) := by
  refine okf_mk (k := 5) T 61 rfl sc_define_class rfl rfl (fun _ _ _ _ _ _ us hl => match us, hl with | [_, _, _], _ => rfl) sp3_len (fun f cdv A outer s H vs Q E hr h => ?_)
  refine ⟨_, (pss_cons (ps_set (i := 3) sc_define_class.nd rfl (Or.inl rfl) (pe_ok (ok_take_new_name T) (hr.mono (by decide)) rfl T.g_take_new_name (L2N.passes_call (L2N.takes_of rfl rfl rfl rfl) fun _ _ _ _ h => h) (pa_cons (pv 0) (pa_cons (pv 1) pa_nil))))
      (pss_cons (ps_expr (pe_ok (ok_take_end T) (hr.mono (by decide)) rfl T.g_take_end (L2N.passes_call (L2N.takes_of rfl rfl rfl rfl) fun _ _ _ _ h => h) (pa_cons (pv 0) pa_nil)))
      (pss_cons (ps_expr (pe_ok (ok_need T) (hr.mono (by decide)) rfl T.g_need (L2N.passes_call (L2N.takes_of rfl rfl rfl rfl) fun _ _ _ _ h => h) (pa_cons (pe_cmpR op_lt (pe_callB call_len_seq rfl T.f_len boot_len (pa_cons (pe_fld (pv 1) rfl) pa_nil)) (pe_gint rfl (T.int_MOST_CLASSES)) (nomark _)) (pa_cons (pv 2) (pa_cons (pe_gint rfl (T.int_TOO_MANY)) pa_nil)))))
      (pss_one (ps_expr (pe_bm PySem.F.plainAttrs_list PySem.F.slot_list_append PySem.F.type_list_append mt_append (pe_fld (pv 1) rfl) (pa_cons (pv 3) pa_nil))))))), ?_⟩
  obtain ⟨_, _, _, rfl, r, d, M, col, rfl, rfl, rfl, R, MO, wf, G, hQ⟩ := h
  refine ⟨_, rfl, _, rfl, _, _, rfl, r, d, M, rfl, rfl, R, MO, wf, G.tok, ?_⟩
  unfold Qu.stClass at hQ
  cases hn : Lrx9.newName M r.rest r.len with
  | error f =>
    rw [hn] at hQ
    exact hQ
  | ok y =>
    obtain ⟨name, more⟩ := y
    rw [hn] at hQ
    simp only at hQ ⊢
    intro H1 F1 R1 er1 nm
    have MO1 := MO.fm F1 R.rds
    refine ⟨_, rfl, _, rfl, r.go 1, rfl, R1, ?_⟩
    rw [er1]
    show (match Lrx9.isNothingLeft more r.len with | .error f => _ | .ok _ => _)
    cases hl : Lrx9.isNothingLeft more r.len with
    | error f =>
      rw [hl] at hQ
      exact (show LineF K (SR r) H E _ from hQ).less F1
    | ok _ =>
      rw [hl] at hQ
      simp only at hQ ⊢
      refine ⟨_, rfl, _, _, _, _, _, rfl, MO1.ob, T.c_Model, T.n_Model_classes, rfl, _, _, rfl, .inl (SqL.of MO1.cl), _, _, rfl, rfl, _, rfl, _, _, _, rfl, decide (((words M.classes).length : Int) < 4), ⟨col, 8⟩, rfl, rfl, rfl, fun z2 => ?_, fun z2 => ?_⟩
      · have l := of_decide_eq_true z2
        have lw : (words M.classes).length = M.classes.length := List.length_map ..
        rw [if_neg (by simp only [Lrx9.maxClasses]; omega)] at hQ
        refine ⟨_, rfl, _, _, _, _, _, rfl, MO1.ob, T.c_Model, T.n_Model_classes, rfl, .inl ⟨rfl, _, SqL.of MO1.cl⟩, _, rfl, d.cl, _, _, rfl, rfl, MO1.cl, Nat.lt_of_lt_of_le (show _ < 4 by omega) (by decide), ?_⟩
        have F4 : Fm (fun y => y = d.cl) H1 (upd H1 d.cl (.lst (words M.classes ++ [.str (sT name)]))) := (Fm.refl H1).put MO1.cl id (.inr rfl)
        refine hQ _ ((F1.imp fun _ z => .inl z).trans (F4.imp fun _ z => .inr (by rw [show _ = d.cl from z]; exact List.mem_cons_of_mem _ List.mem_cons_self))) ?_
        refine MO1.set_cl F4 ?_
        rw [upd_same]
        simp [words]
      · have l := of_decide_eq_false z2
        have lw : (words M.classes).length = M.classes.length := List.length_map ..
        rw [if_pos (by simp only [Lrx9.maxClasses]; omega)] at hQ
        exact (show LineF K (SR r) H E _ from hQ).less F1
def manyAt (M : Lrx9.Model) (kw : List Nat) (lo hi : Int) (rest : List Lrx9.Token) (len : Nat) : Except Lrx9.Fault (Option Int × List Lrx9.Token) :=
  if isAt rest 0 kw = true then match Lrx9.evaluate M len (rest.drop 1) with
    | .error f => .error f
    | .ok (v, more) => if (decide (v.den = 1) && within v lo hi) = true then .ok (some v.num, more) else .error ⟨Lrx9.columnOf (rest.drop 1) len, 7⟩
  else .ok (none, rest)
def optV : Option Int → List V
  | none => []
  | some i => [.int i]
def sp_take_many (K : PySem.W.Frag) : Sp := sp5 fun a b c e g H Q E => ∃ (r : RD) (d : MD) (M : Lrx9.Model) (kw : List Nat) (lo hi : Int), a = .ref r.a ∧ b = .ref d.a ∧ c = .str (sT kw) ∧ e = .int lo ∧ g = .int hi ∧ SmI lo ∧ SmI hi ∧ RdO K H r ∧ MdO K H d M ∧ Qu.Wf M ∧ RdG r ∧
  match manyAt M kw lo hi r.rest r.len with
  | .error f => LineF K (SR r) H E f
  | .ok (o, m) => ∀ b H' n, Fm (SR r) H H' → RdO K H' (r.go n) → (r.go n).rest = m → H b = none → H' b = some (.lst (optV o)) → Q (.ref b) H'
theorem ok_take_many {w : World} {K : PySem.W.Frag} {mg : Str → Option Value} {base : Heap} (T : Txt w K mg) : OKF w K mg base (L2N.CX prog w) 9 d_take_many ["reader", "model", "word", "low", "high"] (sp_take_many K) := by
  refine okf_mk (k := 8) T 62 rfl sc_take_many rfl rfl (fun _ _ _ _ _ _ us hl => match us, hl with | [_, _, _, _, _], _ => rfl) sp5_len (fun f cdv A outer s H vs Q E hr h => ?_)
  refine ⟨_, (pss_cons (ps_if (pt_not (pt_val (pe_ok (ok_take_if T) (hr.mono (by decide)) rfl T.g_take_if pass0 (pa_cons (pv 0) (pa_cons (pe_gint rfl (T.int_NAME)) (pa_cons (pv 2) pa_nil)))))) (pss_one (ps_ret (pe_lst pa_nil)))
      pss_nil)
      (pss_cons (ps_asg (pe_ok (ok_take_value T) (hr.mono (by decide)) rfl T.g_take_value (L2N.passes_call (L2N.takes_of rfl rfl rfl rfl) fun _ _ _ _ h => h) (pa_cons (pv 0) (pa_cons (pv 1) pa_nil))) (pg_tup rfl (pgs_cons (pg_name (i := 5) sc_take_many.nd rfl (Or.inl rfl)) (pgs_cons (pg_name (i := 6) sc_take_many.nd rfl (Or.inl rfl)) pgs_nil))))
      (pss_cons (ps_expr (pe_ok (ok_need T) (hr.mono (by decide)) rfl T.g_need (L2N.passes_call (L2N.takes_of rfl rfl rfl rfl) fun _ _ _ _ h => h) (pa_cons (pe_ok (ok_is_whole_within T) (hr.mono (by decide)) rfl T.g_is_whole_within pass0 (pa_cons (pv 6) (pa_cons (pv 3) (pa_cons (pv 4) pa_nil)))) (pa_cons (pv 5) (pa_cons (pe_gint rfl (T.int_OUT_OF_RANGE_statements)) pa_nil)))))
      (pss_one (ps_ret (pe_lst (pa_cons (pe_ix ix_tup (pv 6) pe_int (fun _ _ => rfl)) pa_nil))))))), ?_⟩
  obtain ⟨_, _, _, _, _, rfl, r, d, M, kw, lo, hi, rfl, rfl, rfl, rfl, rfl, s1, s2, R, MO, wf, G, hQ⟩ := h
  refine ⟨_, rfl, _, rfl, _, _, _, rfl, r, 0, kw, rfl, R, rfl, by decide, rfl, fun H1 e1 => ⟨_, rfl, ?_⟩⟩
  unfold manyAt at hQ
  cases c1 : isAt r.rest 0 kw with
  | false =>
    rw [c1, if_neg Bool.false_ne_true] at e1
    rw [show H1 = H from e1.trans R.go0]
    rw [c1, if_neg Bool.false_ne_true] at hQ
    exact iteT ⟨by show 0 ≤ sizeLine; decide, fun p hp => hQ p _ 0 ((Fm.refl H).new hp) (R.same (Same.new hp)) rfl hp upd_same⟩
  | true =>
    rw [c1, if_pos rfl] at e1
    rw [c1, if_pos rfl] at hQ
    obtain ⟨tk, mr, em⟩ : ∃ tk mr, r.rest = tk :: mr := by
      cases hr : r.rest with
      | nil => rw [hr] at c1; cases c1
      | cons tk mr => exact ⟨tk, mr, rfl⟩
    obtain ⟨-, -, -, -, -, -, -, rest1, le1⟩ := R.cons em
    have R1 : RdO K H1 (r.go 1) := e1 ▸ R.go le1
    have F1 : Fm (SR r) H H1 := e1 ▸ go_fm (K := K) (r := r) (r' := r.go 1) R rfl
    clear e1
    have MO1 := MO.fm F1 R.rds
    refine iteF ⟨_, rfl, _, rfl, _, _, rfl, r.go 1, d, M, rfl, rfl, R1, MO1, wf, G.go 1, ?_⟩
    rw [rest_go]
    show (match Lrx9.evaluate M r.len (r.rest.drop 1) with | .error f => _ | .ok (q, m) => _)
    cases he : Lrx9.evaluate M r.len (r.rest.drop 1) with
    | error f =>
      rw [he] at hQ
      exact (show LineF K (SR r) H E _ from hQ).goS F1
    | ok y =>
      obtain ⟨q, m⟩ := y
      rw [he] at hQ
      simp only at hQ ⊢
      intro b x H2 n F2 R2 er2 hs fv rq bq
      rw [go_go] at R2 er2
      have F02 := F1.trans (show Fm (SR r) H1 H2 from F2)
      refine ⟨b, _, rfl, hs, rfl, _, _, rfl, _, _, rfl, rfl, ?_⟩
      refine ⟨_, rfl, _, rfl, _, rfl, _, _, _, rfl, q, lo, hi, 6100, fv, rfl, rfl, s1, s2, bq, by decide, _, rfl, _, _, _, rfl, _, ⟨Lrx9.columnOf (r.rest.drop 1) r.len, 7⟩, rfl, rfl, rfl, fun z => ?_, fun z => ?_⟩
      · rw [if_pos z] at hQ
        obtain ⟨av, rfl, hv⟩ := fv
        refine ⟨_, rfl, _, _, _, _, rfl, rfl, hv, at0, by show 1 ≤ sizeLine; decide, fun p hp => ?_⟩
        exact hQ p _ (1 + n) (F02.new hp) (R2.same (Same.new hp)) er2 (F02.no p hp) upd_same
      · rw [if_neg (by rw [z]; exact Bool.false_ne_true)] at hQ
        exact (show LineF K (SR r) H E _ from hQ).less F02
end Q
set_option Elab.async false
set_option linter.all false
set_option maxRecDepth 100000
set_option maxHeartbeats 4000000
namespace Q
open PySem PySem.Spec PyProof.Rows L2
/-! ### dicts of the module: all their keys -/
structure KTab (K : PySem.W.Frag) (w : World) (a : Addr) (ks : List Str) : Prop where
  d : ∃ es n, KDict K w a es n
  yes : ∀ z ∈ ks, ∃ u, PySem.W.nsIn K a z = some (some u)
  no : ∀ z, ¬ z ∈ ks → PySem.W.nsIn K a z = some none
theorem keys_find {P : Params} {z : Str} : ∀ {l : List DictEntry} {ks : List Str}, l.map He.keyOf = He.keysIn P ks → (¬ z ∈ ks → l.find? (fun e => e.key.isStr z) = none) ∧ (z ∈ ks → ∃ e, l.find? (fun e => e.key.isStr z) = some e) ∧ l.any (fun e => e.refKey) = false
  | [], [], _ => ⟨fun _ => rfl, fun h => (by cases h), rfl⟩
  | [], k :: ks, h => by cases h
  | e :: r, [], h => by cases h
  | e :: r, k :: ks, h => by
    have h1 : He.keyOf e :: r.map He.keyOf = some (k, PyData.keyHash P k) :: He.keysIn P ks := h
    injection h1 with h2 h3
    obtain ⟨i1, i2, i3⟩ := keys_find h3
    have hk : ∃ t, e.key = .str k t := by
      unfold He.keyOf at h2
      split at h2
      · rename_i x t q
        have h4 := Option.some.inj h2
        obtain ⟨h5, h6⟩ := Prod.mk.inj h4
        exact ⟨t, by rw [q, h5]⟩
      · cases h2
    obtain ⟨t, hk⟩ := hk
    have hs : e.key.isStr z = (k == z) := by rw [hk]; rfl
    refine ⟨fun n => ?_, fun m => ?_, ?_⟩
    · have nk : k ≠ z := fun q => n (by rw [q]; exact List.mem_cons_self)
      rw [List.find?_cons, hs, beq_eq_false_iff_ne.mpr nk]
      exact i1 fun q => n (List.mem_cons_of_mem _ q)
    · rw [List.find?_cons, hs]
      by_cases q : k = z
      · rw [beq_iff_eq.mpr q]
        exact ⟨e, rfl⟩
      · rw [beq_eq_false_iff_ne.mpr q]
        rcases List.mem_cons.mp m with m | m
        · exact absurd m.symm q
        · exact i2 m
    · rw [List.any_cons, i3, Bool.or_false]
      unfold DictEntry.refKey
      rw [hk]
theorem ktab_of {K : PySem.W.Frag} {w : World} {a : Addr} {ks : List Str} (h : He.dicW K a = some (He.keysIn w.params ks)) : KTab K w a ks := by
  refine ⟨He.dicW_ok h, fun z hz => ?_, fun z hz => ?_⟩
  all_goals
    unfold He.dicW at h
    cases q : K.lookup a with
    | none => rw [q] at h; cases h
    | some o =>
      obtain ⟨oc, od, dt, osl⟩ := o
      rw [q] at h
      cases oc with
      | type c =>
        cases od with
        | none =>
          cases dt with
          | dict es n =>
            have h1 : (match decide (c = "dict") && (osl.isEmpty && !(a == sysModules)) with
              | true => some (es.toList.map He.keyOf)
              | false => none) = some (He.keysIn w.params ks) := h
            cases y : decide (c = "dict") && (osl.isEmpty && !(a == sysModules)) with
            | false => rw [y] at h1; cases h1
            | true =>
              rw [y] at h1
              obtain ⟨k1, k2, k3⟩ := keys_find (z := z) (Option.some.inj h1)
              unfold PySem.W.nsIn
              rw [q]
              simp only
              first
                | (obtain ⟨e, he⟩ := k2 hz
                   rw [he]
                   exact ⟨_, rfl⟩)
                | (rw [k1 hz, k3]
                   rfl)
          | _ => cases h
        | some b => cases dt <;> cases h
      | _ => cases od <;> cases dt <;> cases h
theorem saysT_tab {fa : List He.Fa} {fn : List He.DefD} {ts : List He.Tab} {w : World} {K : PySem.W.Frag} (c : He.SaysT fa fn ts w K) (i : Nat) {t : He.Tab} (h : ts[i]? = some t) : KTab K w (t.1 K) t.2 := by
  have e : ts.map (fun t => He.dicW K (t.1 K)) = ts.map fun t => some (He.keysIn w.params t.2) := congrArg (fun z : He.AlT => z.2) c
  have e2 : (ts.map fun t => He.dicW K (t.1 K))[i]? = (ts.map fun t => some (He.keysIn w.params t.2))[i]? := by rw [e]
  rw [List.getElem?_map, List.getElem?_map, h] at e2
  exact ktab_of (Option.some.inj e2)
theorem Txt.kt_DEFINITIONS {w : World} {K : PySem.W.Frag} {mg : Str → Option Value} (T : Txt w K mg) : KTab K w (He.ga K "DEFINITIONS") k_DEFINITIONS := saysT_tab T.c.t 0 (t := ((fun K => He.ga K "DEFINITIONS"), k_DEFINITIONS)) rfl
theorem Txt.kt_SETTINGS {w : World} {K : PySem.W.Frag} {mg : Str → Option Value} (T : Txt w K mg) : KTab K w (He.ga K "SETTINGS") k_SETTINGS := saysT_tab T.c.t 1 (t := ((fun K => He.ga K "SETTINGS"), k_SETTINGS)) rfl
/-- z in a dict of the module -/
def rInTab (a : Addr) (ks : List Str) : R2 := fun x y H Q => ∃ z : Str, x = .str z ∧ y = .ref a ∧ Q (.bl (decide (z ∈ ks))) H
theorem op_inTab {X : Cx} {a : Addr} {ks : List Str} (D : KTab X.K X.w a ks) : OpR X (compareOp .In) (rInTab a ks) := by
  obtain ⟨es, n, d⟩ := D.d
  rintro pins s σ H x y v u Q I rx ry ⟨z, rfl, rfl, q⟩
  by_cases c : z ∈ ks
  · obtain ⟨u0, e⟩ := D.yes z c
    rw [decide_eq_true c] at q
    exact op_in_kd d pins s σ H _ _ v u Q I rx ry ⟨z, _, rfl, rfl, e, q⟩
  · rw [decide_eq_false c] at q
    exact op_in_kd d pins s σ H _ _ v u Q I rx ry ⟨z, _, rfl, rfl, D.no z c, q⟩
/-- the value at a key -/
theorem tab_at {K : PySem.W.Frag} {w : World} {a : Addr} {ks : List Str} {kvs : List (Str × He.Dv)} (D : KTab K w a ks) (h : He.valsB K a kvs = true) {z : Str} {v : He.Dv} (m : (z, v) ∈ kvs) : KDct K w a z (v.v K) := by
  obtain ⟨es, n, d⟩ := D.d
  obtain ⟨u, e, r⟩ := He.valsB_ok h m
  exact ⟨es, n, u, d.at_, d.lit, e, r⟩
/-! ### d[k](e, ..): a call of a def that an expression gives -/
structure HeldF (P : Program) (w : World) (K : PySem.W.Frag) (mg : Str → Option Value) (base : Heap) (CX : CXT) (k : Nat) (f : Addr) (sp : Sp) : Prop where
  ex : ∃ (fd : FuncData) (ps : List Str), FnOk P w K mg base CX k f fd ps sp ∧ PySem.W.keepIn K (.ref f) = true ∧ Binds K fd ps []
theorem OKF.held {w : World} {K : PySem.W.Frag} {mg : Str → Option Value} {base : Heap} {CX : CXT} {k : Nat} {d : He.DefD} {ps : List Str} {sp : Sp} (F : OKF w K mg base CX k d ps sp) : HeldF prog w K mg base CX k (He.fAd K d.at_) sp := by
  obtain ⟨fd, G, b⟩ := F.ex
  exact ⟨fd, ps, G, F.kp, b⟩
/-- a promise at a lower level serves at a higher one -/
theorem HeldF.up {P : Program} {w : World} {K : PySem.W.Frag} {mg : Str → Option Value} {base : Heap} {CX : CXT} {k k' : Nat} {f : Addr} {sp : Sp} (h : HeldF P w K mg base CX k f sp) (le : k ≤ k') : HeldF P w K mg base CX k' f sp := by
  obtain ⟨fd, ps, F, b⟩ := h.ex
  exact ⟨fd, ps, F.mono le, b⟩
def tCallF (S : Addr → Sp → Prop) (E : XK) (tf : TE) (t : TA) : TE := fun σ H Q => tf σ H fun v H1 => ∃ f sp, v = .ref f ∧ S f sp ∧ t σ H1 fun vs H2 => sp vs H2 Q E
theorem pe_callSub {X : Cx} {CX : CXT} {k : Nat} {S : Addr → Sp → Prop} {E : XK} {o i : Expr} {sp' pos : Pos} {e : Expr} {es : List Expr} {tf : TE} {t : TA} (A : ∀ f sp, S f sp → HeldF X.prog X.w X.K X.mg X.base CX k f sp) (hr : Room k X.A) (hx : Passes CX X E) (hf : PE X (.Subscript o i sp') tf) (ha : PA X (e :: es) t)
    (he : starEach (e :: es) X.env = (false, eval e X.env) :: starEach es X.env := by rfl) (hpl : (backTo pos (starEach es X.env)).any (·.1) = false := by rfl)
    (arm : eval (.Call (.Subscript o i sp') (e :: es) [] pos) X.env = (do callWith pos (← eval (.Subscript o i sp') X.env) [] (backTo pos (starEach (e :: es) X.env)) (backToKw pos (keywordEach [] X.env))) := by rfl) : PE X (.Call (.Subscript o i sp') (e :: es) [] pos) (tCallF S E tf t) := by
  refine ⟨fun pins s σ H Q I h => ?_⟩
  rw [arm]
  refine wpAny_bind (thn (hf.run pins s σ H _ I h) fun u s1 ⟨v, H1, I1, r1, f, sp, ev, hS, q⟩ => ?_)
  subst ev
  obtain rfl : u = Value.ref f := r1
  obtain ⟨fd, ps, F, hk, hb⟩ := (A f sp hS).ex
  refine PySem.W.callWith_K (h₀ := X.base) I1.ok.mod.kin hk (thn (ha.run pos pins s1 σ _ _ I1 q) fun us s2 ⟨vs, H2, I2, r, q⟩ => ⟨I2.kIn, ?_⟩) he hpl
  exact run_fn (dvs := []) F hr hb .nil hx I2 r (by rw [List.append_nil]; exact q)
theorem pe_callLoc {X : Cx} {CX : CXT} {k j : Nat} {S : Addr → Sp → Prop} {E : XK} {x : Str} {p pos : Pos} {e : Expr} {es : List Expr} {t : TA} (A : ∀ f sp, S f sp → HeldF X.prog X.w X.K X.mg X.base CX k f sp) (hr : Room k X.A) (hx : Passes CX X E) (hN : X.N[j]? = some x) (hv : Vis X.env.scope x) (ha : PA X (e :: es) t)
    (hdb : (x == ("__debug__" : Str)) = false := by decide) (hcd : (x == ("__classdict__" : Str)) = false := by decide)
    (he : starEach (e :: es) X.env = (false, eval e X.env) :: starEach es X.env := by rfl) (hpl : (backTo pos (starEach es X.env)).any (·.1) = false := by rfl) : PE X (.Call (.Name x p) (e :: es) [] pos) (tCallF S E (tVar j) t) := by
  refine ⟨fun pins s σ H Q I h => ?_⟩
  refine wpAny_Call_Name_kw (thn ((pe_var (pos := p) hN hv hdb hcd).run pins s σ H _ I h) fun u s1 ⟨v, H1, I1, r1, f, sp, ev, hS, q⟩ => ?_)
  subst ev
  obtain rfl : u = Value.ref f := r1
  obtain ⟨fd, ps, F, hk, hb⟩ := (A f sp hS).ex
  refine PySem.W.callWith_K (h₀ := X.base) I1.ok.mod.kin hk (thn (ha.run pos pins s1 σ _ _ I1 q) fun us s2 ⟨vs, H2, I2, r, q⟩ => ⟨I2.kIn, ?_⟩) he hpl
  exact run_fn (dvs := []) F hr hb .nil hx I2 r (by rw [List.append_nil]; exact q)
/-- a tuple of the module with methods -/
theorem ty_DISC {w : World} {K : PySem.W.Frag} {mg : Str → Option Value} (T : Txt w K mg) (H : Hp) : tyV K "tuple" (.ref (He.ga K "DISCIPLINES")) H := by
  obtain ⟨o, h1, h2⟩ := T.nod_DISCIPLINES
  rcases T.t_DISCIPLINES (fun _ => none) with (h | ⟨_, h⟩) | ⟨o', its, n, h3, h4, -⟩
  · cases h
  · cases h
  · rw [h1] at h3
    cases h3
    exact .inr (.inl ⟨rfl, o, h1, h4, h2⟩)
end Q
set_option Elab.async false
set_option linter.all false
set_option maxRecDepth 100000
set_option maxHeartbeats 4000000
namespace Q
open PySem PySem.Spec PyProof.Rows L2
/-! ### settings -/
theorem nought_num {q : Fr} (lo hi : Int) : within q lo hi = (decide (lo * (q.den : Int) ≤ q.num) && decide (q.num ≤ hi * (q.den : Int))) := rfl
theorem rate_eq (q : Fr) : Lrx9.isRate q = (decide (0 < q.num) && decide (q.num ≤ 1000000 * (q.den : Int))) := by
  unfold Lrx9.isRate Lrx1.lt Lrx1.le
  simp [Lrx1.zero, Lrx1.whole]
theorem rate_eq2 (q : Fr) : (Lrx9.isShort q && Lrx9.isRate q) = (decide (0 < q.num) && (within q 0 1000000 && Lrx9.isShort q)) := by
  rw [rate_eq, nought_num]
  by_cases c : 0 < q.num
  · rw [decide_eq_true c, decide_eq_true (show 0 * (q.den : Int) ≤ q.num by omega), Bool.true_and, Bool.true_and, Bool.and_comm]
  · rw [decide_eq_false c, Bool.false_and, Bool.false_and, Bool.and_false]
theorem arr_eq (q : Fr) : (Lrx9.isShort q && Lrx9.isArrival q) = (within q 0 1000000 && Lrx9.isShort q) := by
  rw [Bool.and_comm, nought_num]
  unfold Lrx9.isArrival Lrx1.le
  simp [Lrx1.zero, Lrx1.whole]
theorem prob_eq (q : Fr) : (Lrx9.isShort q && Lrx9.isProbability q) = (within q 0 1 && Lrx9.isShort q) := by
  rw [Bool.and_comm, nought_num]
  unfold Lrx9.isProbability Lrx1.le
  simp [Lrx1.zero, Lrx1.one]
def sp_set_service (K : PySem.W.Frag) : Sp := sp4 fun a b c e H Q E => ∃ (r : RD) (d : MD) (M : Lrx9.Model) (col : Nat) (once : Bool), a = .ref r.a ∧ b = .ref d.a ∧ c = .int (col : Int) ∧ e = .bl once ∧ RdO K H r ∧ MdO K H d M ∧ Qu.Wf M ∧ RdG r ∧
  GivesM K H r d Q E (Qu.stPut (fun l => { M with services := l }) (Lrx9.placeStatement M (!once) r.len col r.rest M.services Lrx9.isRate))
theorem ok_set_service {w : World} {K : PySem.W.Frag} {mg : Str → Option Value} {base : Heap} (T : Txt w K mg) : OKF w K mg base (L2N.CX prog w) 10 d_set_service ["reader", "model", "keyword", "is_once"] (sp_set_service K) := by
  refine okf_mk (k := 9) T 65 rfl sc_set_service rfl rfl (fun _ _ _ _ _ _ us hl => match us, hl with | [_, _, _, _], _ => rfl) sp4_len (fun f cdv A outer s H vs Q E hr h => ?_)
  refine ⟨_, (pss_cons (ps_set (i := 4) sc_set_service.nd rfl (Or.inl rfl) (pe_ok (ok_take_place T) (hr.mono (by decide)) rfl T.g_take_place (L2N.passes_call (L2N.takes_of rfl rfl rfl rfl) fun _ _ _ _ h => h) (pa_cons (pv 0) (pa_cons (pv 1) pa_nil))))
      (pss_cons (ps_asg (pe_ok (ok_take_last_value T) (hr.mono (by decide)) rfl T.g_take_last_value (L2N.passes_call (L2N.takes_of rfl rfl rfl rfl) fun _ _ _ _ h => h) (pa_cons (pv 0) (pa_cons (pv 1) pa_nil))) (pg_tup rfl (pgs_cons (pg_name (i := 5) sc_set_service.nd rfl (Or.inl rfl)) (pgs_cons (pg_name (i := 6) sc_set_service.nd rfl (Or.inl rfl)) pgs_nil))))
      (pss_cons (ps_expr (pe_ok (ok_need T) (hr.mono (by decide)) rfl T.g_need (L2N.passes_call (L2N.takes_of rfl rfl rfl rfl) fun _ _ _ _ h => h) (pa_cons (pe_and (pe_cmpR op_gt (pe_ix ix_tup (pv 6) pe_int (fun _ _ => rfl)) pe_int (nomark _)) (pe_and (pe_ok (ok_is_within T) (hr.mono (by decide)) rfl T.g_is_within pass0 (pa_cons (pv 6) (pa_cons pe_int (pa_cons (pe_gint rfl (T.int_MOST_RATE)) pa_nil)))) (pe_one (pe_ok (ok_is_near T) (hr.mono (by decide)) rfl T.g_is_near pass0 (pa_cons (pv 6) pa_nil))))) (pa_cons (pv 5) (pa_cons (pe_gint rfl (T.int_OUT_OF_RANGE_statements)) pa_nil)))))
      (pss_one (ps_expr (pe_ok (ok_set_value T) (hr.mono (by decide)) rfl T.g_set_value (L2N.passes_call (L2N.takes_of rfl rfl rfl rfl) fun _ _ _ _ h => h) (pa_cons (pe_fld (pv 1) rfl) (pa_cons (pv 4) (pa_cons (pv 6) (pa_cons (pv 2) (pa_cons (pv 3) pa_nil))))))))))), ?_⟩
  obtain ⟨_, _, _, _, rfl, r, d, M, col, once, rfl, rfl, rfl, rfl, R, MO, wf, G, hQ⟩ := h
  refine ⟨_, rfl, _, rfl, _, _, rfl, r, d, M, rfl, rfl, R, MO, wf, ?_⟩
  unfold Lrx9.placeStatement at hQ
  cases hp : Lrx9.readPlace M r.rest r.len with
  | error f =>
    rw [hp] at hQ
    exact hQ
  | ok y =>
    obtain ⟨⟨i, c⟩, more⟩ := y
    rw [hp] at hQ
    simp only at hQ ⊢
    intro b H1 F1 R1 er1 hb iN cN
    have MO1 := MO.fm F1 R.rds
    refine ⟨_, rfl, _, rfl, _, _, rfl, r.go 2, d, M, rfl, rfl, R1, MO1, wf, G.go 2, ?_⟩
    rw [er1]
    show (match lastAt M more r.len with | .error f => _ | .ok q => _)
    rw [last_split] at hQ
    cases hl : lastAt M more r.len with
    | error f =>
      rw [hl] at hQ
      exact (show LineF K (SR r) H E _ from hQ).goS F1
    | ok q =>
      rw [hl] at hQ
      simp only at hQ ⊢
      intro bp x H2 F2 hs fv rq bq
      have MO2 := MO1.fm (S := SR r) F2 (show Rds (SR r) H1 from R1.rds)
      have F02 := F1.trans (show Fm (SR r) H1 H2 from F2)
      have hb2 : H2 b = some (.tup [.int (i : Int), .int (c : Int)]) := F2.st _ _ hb fun _ => trivial
      rw [rate_eq2] at hQ
      refine ⟨bp, _, rfl, hs, rfl, _, _, rfl, _, _, rfl, rfl, ?_⟩
      obtain ⟨av, rfl, hv⟩ := id fv
      refine ⟨_, rfl, _, _, _, _, rfl, rfl, hv, at0, _, _, rfl, rfl, _, rfl, ?_⟩
      cases c0 : decide (0 < q.num) with
      | false =>
        rw [c0, Bool.false_and] at hQ
        refine iteF ⟨_, rfl, _, _, _, rfl, false, ⟨Lrx9.columnOf more r.len, 7⟩, rfl, rfl, rfl, fun z => Bool.noConfusion z, fun _ => ?_⟩
        simp only [if_false, Bool.false_eq_true] at hQ
        exact (show LineF K (SR r) H E _ from hQ).less F02
      | true =>
       rw [c0, Bool.true_and] at hQ
       refine iteT ?_
       refine ⟨_, rfl, _, _, _, rfl, q, 0, 1000000, 6100, fv, rfl, rfl, (by unfold SmI; decide), (by unfold SmI; decide), bq, by decide, _, rfl, ?_⟩
       cases c1 : within q 0 1000000 with
       | false =>
        rw [c1, Bool.false_and] at hQ
        refine iteF ⟨_, rfl, _, _, _, rfl, false, ⟨Lrx9.columnOf more r.len, 7⟩, rfl, rfl, rfl, fun z => Bool.noConfusion z, fun _ => ?_⟩
        simp only [if_false, Bool.false_eq_true] at hQ
        exact (show LineF K (SR r) H E _ from hQ).less F02
       | true =>
        rw [c1, Bool.true_and] at hQ
        refine iteT ⟨_, rfl, _, rfl, q, fv, _, rfl, _, _, _, rfl, Lrx9.isShort q, ⟨Lrx9.columnOf more r.len, 7⟩, rfl, rfl, rfl, fun z => ?_, fun z => ?_⟩
        · rw [z] at hQ
          simp only [if_true] at hQ
          refine ⟨_, rfl, _, _, _, _, _, rfl, MO2.ob, T.c_Model, T.n_Model_services, rfl, _, rfl, _, rfl, _, rfl, _, rfl, _, _, _, _, _, rfl, d.sv, b, w, key2, Qu.PlR M.stations.length M.classes.length, M.services, ⟨i, c, 0, 0, q⟩, col, once, rfl, rfl, rfl, rfl, MO2.sv, hb2, fv, key2_ok wf.nst wf.ncl, fun e he => Qu.pl_sm he wf.nst wf.ncl, wf.sv, ⟨iN, cN, rfl, rfl⟩, rq, ?_⟩
          cases ha : Lrx9.addEntry (!once) col ⟨i, c, 0, 0, q⟩ M.services with
          | error f =>
            rw [ha] at hQ
            exact (show LineF K (SR r) H E _ from hQ).less F02
          | ok l =>
            rw [ha] at hQ
            simp only
            intro H3 F3 tab
            exact hQ H3 ((F02.imp fun _ z => .inl z).trans (F3.imp fun _ z => .inr (by rw [show _ = d.sv from z]; simp only [CT, List.mem_cons, true_or, or_true]))) (MO2.set_sv F3 tab)
        · rw [z] at hQ
          simp only [if_false, Bool.false_eq_true] at hQ
          exact (show LineF K (SR r) H E _ from hQ).less F02
def sp_set_arrival (K : PySem.W.Frag) : Sp := sp4 fun a b c e H Q E => ∃ (r : RD) (d : MD) (M : Lrx9.Model) (col : Nat) (once : Bool), a = .ref r.a ∧ b = .ref d.a ∧ c = .int (col : Int) ∧ e = .bl once ∧ RdO K H r ∧ MdO K H d M ∧ Qu.Wf M ∧ RdG r ∧
  GivesM K H r d Q E (Qu.stPut (fun l => { M with arrivals := l }) (Lrx9.placeStatement M (!once) r.len col r.rest M.arrivals Lrx9.isArrival))
theorem ok_set_arrival {w : World} {K : PySem.W.Frag} {mg : Str → Option Value} {base : Heap} (T : Txt w K mg) : OKF w K mg base (L2N.CX prog w) 10 d_set_arrival ["reader", "model", "keyword", "is_once"] (sp_set_arrival K) := by
  refine okf_mk (k := 9) T 66 rfl sc_set_arrival rfl rfl (fun _ _ _ _ _ _ us hl => match us, hl with | [_, _, _, _], _ => rfl) sp4_len (fun f cdv A outer s H vs Q E hr h => ?_)
  refine ⟨_, (pss_cons (ps_set (i := 4) sc_set_arrival.nd rfl (Or.inl rfl) (pe_ok (ok_take_place T) (hr.mono (by decide)) rfl T.g_take_place (L2N.passes_call (L2N.takes_of rfl rfl rfl rfl) fun _ _ _ _ h => h) (pa_cons (pv 0) (pa_cons (pv 1) pa_nil))))
      (pss_cons (ps_asg (pe_ok (ok_take_last_value T) (hr.mono (by decide)) rfl T.g_take_last_value (L2N.passes_call (L2N.takes_of rfl rfl rfl rfl) fun _ _ _ _ h => h) (pa_cons (pv 0) (pa_cons (pv 1) pa_nil))) (pg_tup rfl (pgs_cons (pg_name (i := 5) sc_set_arrival.nd rfl (Or.inl rfl)) (pgs_cons (pg_name (i := 6) sc_set_arrival.nd rfl (Or.inl rfl)) pgs_nil))))
      (pss_cons (ps_expr (pe_ok (ok_need T) (hr.mono (by decide)) rfl T.g_need (L2N.passes_call (L2N.takes_of rfl rfl rfl rfl) fun _ _ _ _ h => h) (pa_cons (pe_and (pe_ok (ok_is_within T) (hr.mono (by decide)) rfl T.g_is_within pass0 (pa_cons (pv 6) (pa_cons pe_int (pa_cons (pe_gint rfl (T.int_MOST_RATE)) pa_nil)))) (pe_one (pe_ok (ok_is_near T) (hr.mono (by decide)) rfl T.g_is_near pass0 (pa_cons (pv 6) pa_nil)))) (pa_cons (pv 5) (pa_cons (pe_gint rfl (T.int_OUT_OF_RANGE_statements)) pa_nil)))))
      (pss_one (ps_expr (pe_ok (ok_set_value T) (hr.mono (by decide)) rfl T.g_set_value (L2N.passes_call (L2N.takes_of rfl rfl rfl rfl) fun _ _ _ _ h => h) (pa_cons (pe_fld (pv 1) rfl) (pa_cons (pv 4) (pa_cons (pv 6) (pa_cons (pv 2) (pa_cons (pv 3) pa_nil))))))))))), ?_⟩
  obtain ⟨_, _, _, _, rfl, r, d, M, col, once, rfl, rfl, rfl, rfl, R, MO, wf, G, hQ⟩ := h
  refine ⟨_, rfl, _, rfl, _, _, rfl, r, d, M, rfl, rfl, R, MO, wf, ?_⟩
  unfold Lrx9.placeStatement at hQ
  cases hp : Lrx9.readPlace M r.rest r.len with
  | error f =>
    rw [hp] at hQ
    exact hQ
  | ok y =>
    obtain ⟨⟨i, c⟩, more⟩ := y
    rw [hp] at hQ
    simp only at hQ ⊢
    intro b H1 F1 R1 er1 hb iN cN
    have MO1 := MO.fm F1 R.rds
    refine ⟨_, rfl, _, rfl, _, _, rfl, r.go 2, d, M, rfl, rfl, R1, MO1, wf, G.go 2, ?_⟩
    rw [er1]
    show (match lastAt M more r.len with | .error f => _ | .ok q => _)
    rw [last_split] at hQ
    cases hl : lastAt M more r.len with
    | error f =>
      rw [hl] at hQ
      exact (show LineF K (SR r) H E _ from hQ).goS F1
    | ok q =>
      rw [hl] at hQ
      simp only at hQ ⊢
      intro bp x H2 F2 hs fv rq bq
      have MO2 := MO1.fm (S := SR r) F2 (show Rds (SR r) H1 from R1.rds)
      have F02 := F1.trans (show Fm (SR r) H1 H2 from F2)
      have hb2 : H2 b = some (.tup [.int (i : Int), .int (c : Int)]) := F2.st _ _ hb fun _ => trivial
      rw [arr_eq] at hQ
      refine ⟨bp, _, rfl, hs, rfl, _, _, rfl, _, _, rfl, rfl, ?_⟩
      obtain ⟨av, rfl, hv⟩ := id fv
      refine ⟨_, rfl, _, _, _, rfl, q, 0, 1000000, 6100, fv, rfl, rfl, (by unfold SmI; decide), (by unfold SmI; decide), bq, by decide, _, rfl, ?_⟩
      cases c1 : within q 0 1000000 with
      | false =>
        rw [c1, Bool.false_and] at hQ
        refine iteF ⟨_, rfl, _, _, _, rfl, false, ⟨Lrx9.columnOf more r.len, 7⟩, rfl, rfl, rfl, fun z => Bool.noConfusion z, fun _ => ?_⟩
        simp only [if_false, Bool.false_eq_true] at hQ
        exact (show LineF K (SR r) H E _ from hQ).less F02
      | true =>
        rw [c1, Bool.true_and] at hQ
        refine iteT ⟨_, rfl, _, rfl, q, fv, _, rfl, _, _, _, rfl, Lrx9.isShort q, ⟨Lrx9.columnOf more r.len, 7⟩, rfl, rfl, rfl, fun z => ?_, fun z => ?_⟩
        · rw [z] at hQ
          simp only [if_true] at hQ
          refine ⟨_, rfl, _, _, _, _, _, rfl, MO2.ob, T.c_Model, T.n_Model_arrivals, rfl, _, rfl, _, rfl, _, rfl, _, rfl, _, _, _, _, _, rfl, d.ar, b, w, key2, Qu.PlR M.stations.length M.classes.length, M.arrivals, ⟨i, c, 0, 0, q⟩, col, once, rfl, rfl, rfl, rfl, MO2.ar, hb2, fv, key2_ok wf.nst wf.ncl, fun e he => Qu.pl_sm he wf.nst wf.ncl, wf.ar, ⟨iN, cN, rfl, rfl⟩, rq, ?_⟩
          cases ha : Lrx9.addEntry (!once) col ⟨i, c, 0, 0, q⟩ M.arrivals with
          | error f =>
            rw [ha] at hQ
            exact (show LineF K (SR r) H E _ from hQ).less F02
          | ok l =>
            rw [ha] at hQ
            simp only
            intro H3 F3 tab
            exact hQ H3 ((F02.imp fun _ z => .inl z).trans (F3.imp fun _ z => .inr (by rw [show _ = d.ar from z]; simp only [CT, List.mem_cons, true_or, or_true]))) (MO2.set_ar F3 tab)
        · rw [z] at hQ
          simp only [if_false, Bool.false_eq_true] at hQ
          exact (show LineF K (SR r) H E _ from hQ).less F02
def sp_set_leave (K : PySem.W.Frag) : Sp := sp4 fun a b c e H Q E => ∃ (r : RD) (d : MD) (M : Lrx9.Model) (col : Nat) (once : Bool), a = .ref r.a ∧ b = .ref d.a ∧ c = .int (col : Int) ∧ e = .bl once ∧ RdO K H r ∧ MdO K H d M ∧ Qu.Wf M ∧ RdG r ∧
  GivesM K H r d Q E (Qu.stPut (fun l => { M with leaving := l }) (Lrx9.placeStatement M (!once) r.len col r.rest M.leaving Lrx9.isProbability))
theorem ok_set_leave {w : World} {K : PySem.W.Frag} {mg : Str → Option Value} {base : Heap} (T : Txt w K mg) : OKF w K mg base (L2N.CX prog w) 10 d_set_leave ["reader", "model", "keyword", "is_once"] (sp_set_leave K) := by
  refine okf_mk (k := 9) T 68 rfl sc_set_leave rfl rfl (fun _ _ _ _ _ _ us hl => match us, hl with | [_, _, _, _], _ => rfl) sp4_len (fun f cdv A outer s H vs Q E hr h => ?_)
  refine ⟨_, (pss_cons (ps_set (i := 4) sc_set_leave.nd rfl (Or.inl rfl) (pe_ok (ok_take_place T) (hr.mono (by decide)) rfl T.g_take_place (L2N.passes_call (L2N.takes_of rfl rfl rfl rfl) fun _ _ _ _ h => h) (pa_cons (pv 0) (pa_cons (pv 1) pa_nil))))
      (pss_cons (ps_asg (pe_ok (ok_take_last_value T) (hr.mono (by decide)) rfl T.g_take_last_value (L2N.passes_call (L2N.takes_of rfl rfl rfl rfl) fun _ _ _ _ h => h) (pa_cons (pv 0) (pa_cons (pv 1) pa_nil))) (pg_tup rfl (pgs_cons (pg_name (i := 5) sc_set_leave.nd rfl (Or.inl rfl)) (pgs_cons (pg_name (i := 6) sc_set_leave.nd rfl (Or.inl rfl)) pgs_nil))))
      (pss_cons (ps_expr (pe_ok (ok_need T) (hr.mono (by decide)) rfl T.g_need (L2N.passes_call (L2N.takes_of rfl rfl rfl rfl) fun _ _ _ _ h => h) (pa_cons (pe_and (pe_ok (ok_is_within T) (hr.mono (by decide)) rfl T.g_is_within pass0 (pa_cons (pv 6) (pa_cons pe_int (pa_cons pe_int pa_nil)))) (pe_one (pe_ok (ok_is_near T) (hr.mono (by decide)) rfl T.g_is_near pass0 (pa_cons (pv 6) pa_nil)))) (pa_cons (pv 5) (pa_cons (pe_gint rfl (T.int_OUT_OF_RANGE_statements)) pa_nil)))))
      (pss_one (ps_expr (pe_ok (ok_set_value T) (hr.mono (by decide)) rfl T.g_set_value (L2N.passes_call (L2N.takes_of rfl rfl rfl rfl) fun _ _ _ _ h => h) (pa_cons (pe_fld (pv 1) rfl) (pa_cons (pv 4) (pa_cons (pv 6) (pa_cons (pv 2) (pa_cons (pv 3) pa_nil))))))))))), ?_⟩
  obtain ⟨_, _, _, _, rfl, r, d, M, col, once, rfl, rfl, rfl, rfl, R, MO, wf, G, hQ⟩ := h
  refine ⟨_, rfl, _, rfl, _, _, rfl, r, d, M, rfl, rfl, R, MO, wf, ?_⟩
  unfold Lrx9.placeStatement at hQ
  cases hp : Lrx9.readPlace M r.rest r.len with
  | error f =>
    rw [hp] at hQ
    exact hQ
  | ok y =>
    obtain ⟨⟨i, c⟩, more⟩ := y
    rw [hp] at hQ
    simp only at hQ ⊢
    intro b H1 F1 R1 er1 hb iN cN
    have MO1 := MO.fm F1 R.rds
    refine ⟨_, rfl, _, rfl, _, _, rfl, r.go 2, d, M, rfl, rfl, R1, MO1, wf, G.go 2, ?_⟩
    rw [er1]
    show (match lastAt M more r.len with | .error f => _ | .ok q => _)
    rw [last_split] at hQ
    cases hl : lastAt M more r.len with
    | error f =>
      rw [hl] at hQ
      exact (show LineF K (SR r) H E _ from hQ).goS F1
    | ok q =>
      rw [hl] at hQ
      simp only at hQ ⊢
      intro bp x H2 F2 hs fv rq bq
      have MO2 := MO1.fm (S := SR r) F2 (show Rds (SR r) H1 from R1.rds)
      have F02 := F1.trans (show Fm (SR r) H1 H2 from F2)
      have hb2 : H2 b = some (.tup [.int (i : Int), .int (c : Int)]) := F2.st _ _ hb fun _ => trivial
      rw [prob_eq] at hQ
      refine ⟨bp, _, rfl, hs, rfl, _, _, rfl, _, _, rfl, rfl, ?_⟩
      obtain ⟨av, rfl, hv⟩ := id fv
      refine ⟨_, rfl, _, _, _, rfl, q, 0, 1, 6100, fv, rfl, rfl, (by unfold SmI; decide), (by unfold SmI; decide), bq, by decide, _, rfl, ?_⟩
      cases c1 : within q 0 1 with
      | false =>
        rw [c1, Bool.false_and] at hQ
        refine iteF ⟨_, rfl, _, _, _, rfl, false, ⟨Lrx9.columnOf more r.len, 7⟩, rfl, rfl, rfl, fun z => Bool.noConfusion z, fun _ => ?_⟩
        simp only [if_false, Bool.false_eq_true] at hQ
        exact (show LineF K (SR r) H E _ from hQ).less F02
      | true =>
        rw [c1, Bool.true_and] at hQ
        refine iteT ⟨_, rfl, _, rfl, q, fv, _, rfl, _, _, _, rfl, Lrx9.isShort q, ⟨Lrx9.columnOf more r.len, 7⟩, rfl, rfl, rfl, fun z => ?_, fun z => ?_⟩
        · rw [z] at hQ
          simp only [if_true] at hQ
          refine ⟨_, rfl, _, _, _, _, _, rfl, MO2.ob, T.c_Model, T.n_Model_leaves, rfl, _, rfl, _, rfl, _, rfl, _, rfl, _, _, _, _, _, rfl, d.le, b, w, key2, Qu.PlR M.stations.length M.classes.length, M.leaving, ⟨i, c, 0, 0, q⟩, col, once, rfl, rfl, rfl, rfl, MO2.le, hb2, fv, key2_ok wf.nst wf.ncl, fun e he => Qu.pl_sm he wf.nst wf.ncl, wf.le, ⟨iN, cN, rfl, rfl⟩, rq, ?_⟩
          cases ha : Lrx9.addEntry (!once) col ⟨i, c, 0, 0, q⟩ M.leaving with
          | error f =>
            rw [ha] at hQ
            exact (show LineF K (SR r) H E _ from hQ).less F02
          | ok l =>
            rw [ha] at hQ
            simp only
            intro H3 F3 tab
            exact hQ H3 ((F02.imp fun _ z => .inl z).trans (F3.imp fun _ z => .inr (by rw [show _ = d.le from z]; simp only [CT, List.mem_cons, true_or, or_true]))) (MO2.set_le F3 tab)
        · rw [z] at hQ
          simp only [if_false, Bool.false_eq_true] at hQ
          exact (show LineF K (SR r) H E _ from hQ).less F02
end Q
set_option Elab.async false
set_option linter.all false
set_option maxRecDepth 100000
set_option maxHeartbeats 4000000
namespace Q
open PySem PySem.Spec PyProof.Rows L2
def sp_set_route (K : PySem.W.Frag) : Sp := sp4 fun a b c e H Q E => ∃ (r : RD) (d : MD) (M : Lrx9.Model) (col : Nat) (once : Bool), a = .ref r.a ∧ b = .ref d.a ∧ c = .int (col : Int) ∧ e = .bl once ∧ RdO K H r ∧ MdO K H d M ∧ Qu.Wf M ∧ RdG r ∧
  GivesM K H r d Q E (Qu.stPut (fun l => { M with routes := l }) (Qu.stRoute M (!once) r.rest r.len col))
theorem ok_set_route {w : World} {K : PySem.W.Frag} {mg : Str → Option Value} {base : Heap} (T : Txt w K mg) : OKF w K mg base (L2N.CX prog w) 10 d_set_route ["reader", "model", "keyword", "is_once"] (sp_set_route K) := by
  refine okf_mk (k := 9) T 67 rfl sc_set_route rfl rfl (fun _ _ _ _ _ _ us hl => match us, hl with | [_, _, _, _], _ => rfl) sp4_len (fun f cdv A outer s H vs Q E hr h => ?_)
  refine ⟨_, (pss_cons (ps_set (i := 4) sc_set_route.nd rfl (Or.inl rfl) (pe_ok (ok_take_place T) (hr.mono (by decide)) rfl T.g_take_place (L2N.passes_call (L2N.takes_of rfl rfl rfl rfl) fun _ _ _ _ h => h) (pa_cons (pv 0) (pa_cons (pv 1) pa_nil))))
      (pss_cons (ps_set (i := 4) sc_set_route.nd rfl (Or.inl rfl) (pe_op op_catT (pv 4) (pe_ok (ok_take_place T) (hr.mono (by decide)) rfl T.g_take_place (L2N.passes_call (L2N.takes_of rfl rfl rfl rfl) fun _ _ _ _ h => h) (pa_cons (pv 0) (pa_cons (pv 1) pa_nil)))))
      (pss_cons (ps_asg (pe_ok (ok_take_last_value T) (hr.mono (by decide)) rfl T.g_take_last_value (L2N.passes_call (L2N.takes_of rfl rfl rfl rfl) fun _ _ _ _ h => h) (pa_cons (pv 0) (pa_cons (pv 1) pa_nil))) (pg_tup rfl (pgs_cons (pg_name (i := 5) sc_set_route.nd rfl (Or.inl rfl)) (pgs_cons (pg_name (i := 6) sc_set_route.nd rfl (Or.inl rfl)) pgs_nil))))
      (pss_cons (ps_expr (pe_ok (ok_need T) (hr.mono (by decide)) rfl T.g_need (L2N.passes_call (L2N.takes_of rfl rfl rfl rfl) fun _ _ _ _ h => h) (pa_cons (pe_and (pe_ok (ok_is_within T) (hr.mono (by decide)) rfl T.g_is_within pass0 (pa_cons (pv 6) (pa_cons pe_int (pa_cons pe_int pa_nil)))) (pe_one (pe_ok (ok_is_near T) (hr.mono (by decide)) rfl T.g_is_near pass0 (pa_cons (pv 6) pa_nil)))) (pa_cons (pv 5) (pa_cons (pe_gint rfl (T.int_OUT_OF_RANGE_statements)) pa_nil)))))
      (pss_one (ps_expr (pe_ok (ok_set_value T) (hr.mono (by decide)) rfl T.g_set_value (L2N.passes_call (L2N.takes_of rfl rfl rfl rfl) fun _ _ _ _ h => h) (pa_cons (pe_fld (pv 1) rfl) (pa_cons (pv 4) (pa_cons (pv 6) (pa_cons (pv 2) (pa_cons (pv 3) pa_nil)))))))))))), ?_⟩
  obtain ⟨_, _, _, _, rfl, r, d, M, col, once, rfl, rfl, rfl, rfl, R, MO, wf, G, hQ⟩ := h
  refine ⟨_, rfl, _, rfl, _, _, rfl, r, d, M, rfl, rfl, R, MO, wf, ?_⟩
  unfold Qu.stRoute at hQ
  cases hp : Lrx9.readPlace M r.rest r.len with
  | error f =>
    rw [hp] at hQ
    exact hQ
  | ok y =>
    obtain ⟨⟨i, c⟩, more⟩ := y
    rw [hp] at hQ
    simp only at hQ ⊢
    intro b H1 F1 R1 er1 hb iN cN
    have MO1 := MO.fm F1 R.rds
    refine ⟨_, rfl, _, rfl, _, rfl, _, _, rfl, r.go 2, d, M, rfl, rfl, R1, MO1, wf, ?_⟩
    rw [er1]
    show (match Lrx9.readPlace M more r.len with | .error f => _ | .ok ((i, c), m) => _)
    cases hp2 : Lrx9.readPlace M more r.len with
    | error f =>
      rw [hp2] at hQ
      exact (show LineF K (SR r) H E _ from hQ).goS F1
    | ok y2 =>
      obtain ⟨⟨j, s2⟩, after⟩ := y2
      rw [hp2] at hQ
      simp only at hQ ⊢
      intro b2 H2 F2 R2 er2 hb2 jN sN
      rw [go_go] at R2 er2
      have F02 := F1.trans (show Fm (SR r) H1 H2 from F2)
      have hb' : H2 b = some (.tup [.int (i : Int), .int (c : Int)]) := F2.st _ _ hb fun _ => trivial
      have MO2 := MO1.fm (S := SR r) F2 (show Rds (SR r) H1 from R1.rds)
      refine ⟨_, _, _, _, rfl, rfl, SqT.of hb', SqT.of hb2, fun z => (by cases z), (by show 4 ≤ sizeLine; decide), fun z => (by cases z), fun _ p hp3 => ?_⟩
      have s3 : Same H2 (upd H2 p (.tup ([.int (i : Int), .int (c : Int)] ++ [.int (j : Int), .int (s2 : Int)]))) := Same.new hp3
      have hpl : upd H2 p (.tup ([.int (i : Int), .int (c : Int)] ++ [.int (j : Int), .int (s2 : Int)])) p = some (.tup [.int (i : Int), .int (c : Int), .int (j : Int), .int (s2 : Int)]) := upd_same
      generalize upd H2 p (.tup ([.int (i : Int), .int (c : Int)] ++ [.int (j : Int), .int (s2 : Int)])) = H3 at *
      have MO3 := MO2.same s3
      have R3 := R2.same s3
      have F03 := F02.trans s3.fm
      refine ⟨_, rfl, _, rfl, _, _, rfl, r.go 4, d, M, rfl, rfl, R3, MO3, wf, G.go 4, ?_⟩
      rw [show (r.go 4).rest = after from er2]
      show (match lastAt M after r.len with | .error f => _ | .ok q => _)
      rw [last_split] at hQ
      cases hl : lastAt M after r.len with
      | error f =>
        rw [hl] at hQ
        exact (show LineF K (SR r) H E _ from hQ).goS F03
      | ok q =>
        rw [hl] at hQ
        simp only at hQ ⊢
        intro bp x H4 F4 hs fv rq bq
        have MO4 := MO3.fm (S := SR r) F4 (show Rds (SR r) H3 from R3.rds)
        have F04 := F03.trans (show Fm (SR r) H3 H4 from F4)
        have hpl4 : H4 p = some (.tup [.int (i : Int), .int (c : Int), .int (j : Int), .int (s2 : Int)]) := F4.st _ _ hpl fun _ => trivial
        rw [prob_eq] at hQ
        refine ⟨bp, _, rfl, hs, rfl, _, _, rfl, _, _, rfl, rfl, ?_⟩
        refine ⟨_, rfl, _, _, _, rfl, q, 0, 1, 6100, fv, rfl, rfl, (by unfold SmI; decide), (by unfold SmI; decide), bq, by decide, _, rfl, ?_⟩
        cases c1 : within q 0 1 with
        | false =>
          rw [c1, Bool.false_and] at hQ
          refine iteF ⟨_, rfl, _, _, _, rfl, false, ⟨Lrx9.columnOf after r.len, 7⟩, rfl, rfl, rfl, fun z => Bool.noConfusion z, fun _ => ?_⟩
          simp only [if_false, Bool.false_eq_true] at hQ
          exact (show LineF K (SR r) H E _ from hQ).less F04
        | true =>
          rw [c1, Bool.true_and] at hQ
          refine iteT ⟨_, rfl, _, rfl, q, fv, _, rfl, _, _, _, rfl, Lrx9.isShort q, ⟨Lrx9.columnOf after r.len, 7⟩, rfl, rfl, rfl, fun z => ?_, fun z => ?_⟩
          · rw [z] at hQ
            simp only [if_true] at hQ
            refine ⟨_, rfl, _, _, _, _, _, rfl, MO4.ob, T.c_Model, T.n_Model_routes, rfl, _, rfl, _, rfl, _, rfl, _, rfl, _, _, _, _, _, rfl, d.ro, p, w, key4, Qu.RoR M.stations.length M.classes.length, M.routes, ⟨i, c, j, s2, q⟩, col, once, rfl, rfl, rfl, rfl, MO4.ro, hpl4, fv, key4_ok wf.nst wf.ncl, fun e he => Qu.ro_sm he wf.nst wf.ncl, wf.ro, ⟨iN, cN, jN, sN⟩, rq, ?_⟩
            cases ha : Lrx9.addEntry (!once) col ⟨i, c, j, s2, q⟩ M.routes with
            | error f =>
              rw [ha] at hQ
              exact (show LineF K (SR r) H E _ from hQ).less F04
            | ok l =>
              rw [ha] at hQ
              simp only
              intro H5 F5 tab
              exact hQ H5 ((F04.imp fun _ z => .inl z).trans (F5.imp fun _ z => .inr (by rw [show _ = d.ro from z]; simp only [CT, List.mem_cons, true_or, or_true]))) (MO4.set_ro F5 tab)
          · rw [z] at hQ
            simp only [if_false, Bool.false_eq_true] at hQ
            exact (show LineF K (SR r) H E _ from hQ).less F04
def sp_set_population (K : PySem.W.Frag) : Sp := sp4 fun a b c e H Q E => ∃ (r : RD) (d : MD) (M : Lrx9.Model) (col : Nat) (once : Bool), a = .ref r.a ∧ b = .ref d.a ∧ c = .int (col : Int) ∧ e = .bl once ∧ RdO K H r ∧ MdO K H d M ∧ Qu.Wf M ∧ RdG r ∧
  GivesM K H r d Q E (Qu.stPut (fun l => { M with populations := l }) (Qu.stPop M (!once) r.rest r.len col))
section
variable {nc : Nat}
theorem pop_iff {x e : Lrx9.Entry} (h : nc ≤ 4) (hx : Qu.PoR nc x) (he : Qu.PoR nc e) : ((Sum.inl (x.class_ : Int) : Key) = Sum.inl (e.class_ : Int)) ↔ Lrx9.samePlace x e = true := by
  rw [Qu.same_iff (Qu.po_sm hx h) (Qu.po_sm he h)]
  obtain ⟨x1, x2, x3, x4⟩ := hx
  obtain ⟨e1, e2, e3, e4⟩ := he
  unfold Qu.code
  rw [x1, x3, x4, e1, e3, e4]
  constructor
  · intro z
    injection z with z
    omega
  · intro z
    have : x.class_ = e.class_ := by omega
    rw [this]
abbrev PopF : Key × V → Lrx9.Entry → Prop := fun kv e => kv.1 = Sum.inl (e.class_ : Int) ∧ kv.2 = .int e.value.num
theorem pop_any {e : Lrx9.Entry} (h : nc ≤ 4) (he : Qu.PoR nc e) : ∀ {kvs : List (Key × V)} {es : List Lrx9.Entry}, Paired PopF kvs es → (∀ x ∈ es, Qu.PoR nc x) → (kvs.any fun kv => decide (kv.1 = Sum.inl (e.class_ : Int))) = es.any fun x => Lrx9.samePlace x e
  | _, _, .nil, _ => rfl
  | kv :: kvs, x :: es, .cons q r, hp => by
    rw [List.any_cons, List.any_cons, pop_any h he r fun y hy => hp y (List.mem_cons_of_mem _ hy)]
    congr 1
    rw [q.1, Bool.eq_iff_iff, decide_eq_true_iff]
    exact pop_iff h (hp x List.mem_cons_self) he
theorem pop_drop {e : Lrx9.Entry} (h : nc ≤ 4) (he : Qu.PoR nc e) : ∀ {kvs : List (Key × V)} {es : List Lrx9.Entry}, Paired PopF kvs es → (∀ x ∈ es, Qu.PoR nc x) → Paired PopF (dropK kvs (Sum.inl (e.class_ : Int))) (Qu.cutE e es)
  | _, _, .nil, _ => .nil
  | kv :: kvs, x :: es, .cons q r, hp => by
    have ih := pop_drop h he r fun y hy => hp y (List.mem_cons_of_mem _ hy)
    unfold dropK Qu.cutE at ih ⊢
    have iff := pop_iff h (hp x List.mem_cons_self) he
    rw [← q.1] at iff
    by_cases c : kv.1 = Sum.inl (e.class_ : Int)
    · rw [List.filter_cons_of_neg (by simp [c]), List.filter_cons_of_neg (by simp [iff.mp c])]
      exact ih
    · have c' : Lrx9.samePlace x e = false := by
        cases q : Lrx9.samePlace x e with
        | false => rfl
        | true => exact absurd (iff.mpr q) c
      rw [List.filter_cons_of_pos (by simp [c]), List.filter_cons_of_pos (by simp [c'])]
      exact .cons q ih
theorem pop_put {e : Lrx9.Entry} (h : nc ≤ 4) (he : Qu.PoR nc e) : ∀ {kvs : List (Key × V)} {es : List Lrx9.Entry}, Paired PopF kvs es → (∀ x ∈ es, Qu.PoR nc x) →
    Paired PopF (kvs.map fun kv => if kv.1 = Sum.inl (e.class_ : Int) then (kv.1, .int e.value.num) else kv) (es.map fun x => if Lrx9.samePlace x e = true then e else x)
  | _, _, .nil, _ => .nil
  | kv :: kvs, x :: es, .cons q r, hp => by
    have iff := pop_iff h (hp x List.mem_cons_self) he
    rw [← q.1] at iff
    rw [List.map_cons, List.map_cons]
    refine .cons ?_ (pop_put h he r fun y hy => hp y (List.mem_cons_of_mem _ hy))
    by_cases c : kv.1 = Sum.inl (e.class_ : Int)
    · rw [if_pos c, if_pos (iff.mp c)]
      exact ⟨c, rfl⟩
    · rw [if_neg c, if_neg (fun q => c (iff.mpr q))]
      exact q
theorem pop_set {e : Lrx9.Entry} (h : nc ≤ 4) (he : Qu.PoR nc e) {kvs : List (Key × V)} {es : List Lrx9.Entry} (p : Paired PopF kvs es) (hp : ∀ x ∈ es, Qu.PoR nc x) : Paired PopF (putK kvs (Sum.inl (e.class_ : Int)) (.int e.value.num)) (Qu.setE e es) := by
  unfold putK Qu.setE
  rw [pop_any h he p hp]
  split
  · exact pop_put h he p hp
  · exact paired_snoc (F := PopF) ⟨rfl, rfl⟩ p
end
theorem pop_eq (q : Fr) : Lrx9.isInteger 0 1000 q = (decide (q.den = 1) && within q 0 1000) := by
  unfold Lrx9.isInteger within
  by_cases c : q.den = 1
  · rw [c]
    simp
  · rw [decide_eq_false c, beq_eq_false_iff_ne.mpr c, Bool.false_and, Bool.false_and]
theorem short_pop {q : Fr} (h : Lrx9.isInteger 0 1000 q = true) : Lrx9.isShort q = true := by
  unfold Lrx9.isInteger at h
  unfold Lrx9.isShort
  have h1 := Bool.and_eq_true_iff.mp h
  have h2 := of_decide_eq_true h1.2
  have h3 : q.den = 1 := by simpa using h1.1
  refine decide_eq_true ⟨?_, ?_⟩
  · have : (10 : Nat) ^ 9 = 1000000000 := by decide
    omega
  · rw [h3]; decide
theorem ok_set_population {w : World} {K : PySem.W.Frag} {mg : Str → Option Value} {base : Heap} (T : Txt w K mg) : OKF w K mg base (L2N.CX prog w) 10 d_set_population ["reader", "model", "keyword", "is_once"] (sp_set_population K) := by
  refine okf_mk (k := 9) T 69 rfl sc_set_population rfl rfl (fun _ _ _ _ _ _ us hl => match us, hl with | [_, _, _, _], _ => rfl) sp4_len (fun f cdv A outer s H vs Q E hr h => ?_)
  have hu := hu_of hr
  have hu64 := hr.units
  refine ⟨_, (pss_cons (ps_set (i := 4) sc_set_population.nd rfl (Or.inl rfl) (pe_ok (ok_take_known T) (hr.mono (by decide)) rfl T.g_take_known (L2N.passes_call (L2N.takes_of rfl rfl rfl rfl) fun _ _ _ _ h => h) (pa_cons (pv 0) (pa_cons (pe_fld (pv 1) rfl) pa_nil))))
      (pss_cons (ps_asg (pe_ok (ok_take_last_value T) (hr.mono (by decide)) rfl T.g_take_last_value (L2N.passes_call (L2N.takes_of rfl rfl rfl rfl) fun _ _ _ _ h => h) (pa_cons (pv 0) (pa_cons (pv 1) pa_nil))) (pg_tup rfl (pgs_cons (pg_name (i := 5) sc_set_population.nd rfl (Or.inl rfl)) (pgs_cons (pg_name (i := 6) sc_set_population.nd rfl (Or.inl rfl)) pgs_nil))))
      (pss_cons (ps_expr (pe_ok (ok_need T) (hr.mono (by decide)) rfl T.g_need (L2N.passes_call (L2N.takes_of rfl rfl rfl rfl) fun _ _ _ _ h => h) (pa_cons (pe_ok (ok_is_whole_within T) (hr.mono (by decide)) rfl T.g_is_whole_within pass0 (pa_cons (pv 6) (pa_cons pe_int (pa_cons (pe_gint rfl (T.int_MOST_POPULATION)) pa_nil)))) (pa_cons (pv 5) (pa_cons (pe_gint rfl (T.int_OUT_OF_RANGE_statements)) pa_nil)))))
      (pss_cons (ps_expr (pe_ok (ok_need T) (hr.mono (by decide)) rfl T.g_need (L2N.passes_call (L2N.takes_of rfl rfl rfl rfl) fun _ _ _ _ h => h) (pa_cons (pe_or (pe_not (pv 3)) (pe_one (pe_cmp (pc_dnotin hu (pv 4) (pe_fld (pv 1) rfl))))) (pa_cons (pv 2) (pa_cons (pe_gint rfl (T.int_KNOWN)) pa_nil)))))
      (pss_one (ps_if (pt_cmpR op_eq (pe_ix ix_tup (pv 6) pe_int (fun _ _ => rfl)) pe_int (nomark _)) (pss_one (ps_expr (pe_dpop2 (pe_fld (pv 1) rfl) (pv 4) pe_non ⟨rfl, rfl, rfl, rfl⟩)))
      (pss_one (ps_dput hu (pe_fld (pv 1) rfl) (pv 4) (pe_ix ix_tup (pv 6) pe_int (fun _ _ => rfl)) rfl)))))))), ?_⟩
  obtain ⟨_, _, _, _, rfl, r, d, M, col, once, rfl, rfl, rfl, rfl, R, MO, wf, G, hQ⟩ := h
  refine ⟨_, rfl, _, rfl, _, _, _, _, _, rfl, MO.ob, T.c_Model, T.n_Model_classes, rfl, _, _, rfl, r, d.cl, M.classes, rfl, rfl, R, MO.cl, ?_⟩
  rw [known_class wf]
  unfold Qu.stPop at hQ
  cases hp : Lrx9.readClass M r.rest r.len with
  | error f =>
    rw [hp] at hQ
    exact hQ
  | ok y =>
    obtain ⟨c, more⟩ := y
    rw [hp] at hQ
    simp only at hQ ⊢
    intro H1 F1 R1 er1
    have cN := (Qu.class_ok hp).1
    have MO1 := MO.fm F1 R.rds
    refine ⟨_, rfl, _, rfl, _, _, rfl, r.go 1, d, M, rfl, rfl, R1, MO1, wf, G.go 1, ?_⟩
    rw [er1]
    show (match lastAt M more r.len with | .error f => _ | .ok q => _)
    rw [last_split] at hQ
    cases hl : lastAt M more r.len with
    | error f =>
      rw [hl] at hQ
      exact (show LineF K (SR r) H E _ from hQ).goS F1
    | ok q =>
      rw [hl] at hQ
      simp only at hQ ⊢
      intro bp x H2 F2 hs fv rq bq
      have MO2 := MO1.fm (S := SR r) F2 (show Rds (SR r) H1 from R1.rds)
      have F02 := F1.trans (show Fm (SR r) H1 H2 from F2)
      refine ⟨bp, _, rfl, hs, rfl, _, _, rfl, _, _, rfl, rfl, ?_⟩
      obtain ⟨av, rfl, hv⟩ := id fv
      refine ⟨_, rfl, _, _, _, rfl, q, 0, 1000, 6100, fv, rfl, rfl, (by unfold SmI; decide), (by unfold SmI; decide), bq, by decide, _, rfl, _, _, _, rfl, _, ⟨Lrx9.columnOf more r.len, 7⟩, rfl, rfl, rfl, fun z => ?_, fun z => ?_⟩
      · rw [← pop_eq] at z
        rw [z, short_pop z] at hQ
        simp only [Bool.and_self, if_true] at hQ
        obtain ⟨kvs, es, hc, hpr, pm⟩ := MO2.po
        have hP : ∀ x ∈ es, Qu.PoR M.classes.length x := fun x hx => wf.po.rg x (pm.subset hx)
        have hen : Qu.PoR M.classes.length ⟨0, c, 0, 0, q⟩ := ⟨rfl, cN, rfl, rfl⟩
        have sm : ∀ e, Qu.PoR M.classes.length e → Qu.Sm e := fun e he => Qu.po_sm he wf.ncl
        have any := pop_any wf.ncl hen hpr hP
        rw [any_perm pm, valV_any] at any
        have size : kvs.length < sizeLine := by
          rw [paired_len hpr, pm.length_eq]
          exact Nat.lt_of_le_of_lt (wf.po.ord sm).len (by decide)
        have num0 : decide (V.int q.num = V.int 0) = decide (q = Lrx1.zero) := by
          refine decide_eq_decide.mpr ⟨fun z => ?_, fun z => by rw [z]; rfl⟩
          injection z with z
          exact (Qu.red_zero_iff rq).mpr z
        have pp := Qu.put_perm (sm _ hen) (wf.po.ord sm) pm
        have needs : ∀ (k : Bool), k = (!once || !(M.populations.any fun x => Lrx9.samePlace x ⟨0, c, 0, 0, q⟩)) → (k = true → Lrx9.addEntry (!once) col ⟨0, c, 0, 0, q⟩ M.populations = .ok (Lrx9.putEntry ⟨0, c, 0, 0, q⟩ M.populations)) ∧ (k = false → Lrx9.addEntry (!once) col ⟨0, c, 0, 0, q⟩ M.populations = .error ⟨col, 5⟩) := by
          rintro k rfl
          unfold Lrx9.addEntry
          cases once with
          | false => exact ⟨fun _ => rfl, fun z => (by cases z)⟩
          | true =>
            cases (M.populations.any fun x => Lrx9.samePlace x ⟨0, c, 0, 0, q⟩) with
            | false => exact ⟨fun _ => rfl, fun z => (by cases z)⟩
            | true => exact ⟨fun z => (by cases z), fun _ => rfl⟩
        have go : (!once || !(M.populations.any fun x => Lrx9.samePlace x ⟨0, c, 0, 0, q⟩)) = true → ∀ H', Fm (fun y => y = d.po) H2 H' → PopV H' d.po (Lrx9.putEntry ⟨0, c, 0, 0, q⟩ M.populations) → Q .non H' := fun z => by
          rw [(needs _ rfl).1 z] at hQ
          intro H3 F3 tab
          exact hQ H3 ((F02.imp fun _ z => .inl z).trans (F3.imp fun _ z => .inr (by rw [show _ = d.po from z]; simp only [CT, List.mem_cons, true_or, or_true]))) (MO2.set_po F3 tab)
        have bad : (!once || !(M.populations.any fun x => Lrx9.samePlace x ⟨0, c, 0, 0, q⟩)) = false → LineS K H2 E ⟨col, 5⟩ := fun z => by
          rw [(needs _ rfl).2 z] at hQ
          exact (show LineF K (SR r) H E _ from hQ).less F02
        clear hQ needs
        unfold Qu.putT at pp
        have key2 : (!once || !(M.populations.any fun x => Lrx9.samePlace x ⟨0, c, 0, 0, q⟩)) = true → tIfS (tTest (tOp rEq (tOp (rIxT K) (tVar 6) (tC (.int 0))) (tC (.int 0)))) (tDrop (tDPop2 (tFld K (tVar 1) "populations") (tVar 4) (tC .non))) (sDPut (tFld K (tVar 1) "populations") (tVar 4) (tOp (rIxT K) (tVar 6) (tC (.int 0))))
            { nx := fun x H' => Q V.non H', rt := Q } [some (.ref r.a), some (.ref d.a), some (.int (col : Int)), some (.bl once), some (.int (c : Int)), some (.int (Lrx9.columnOf more r.len : Nat)), some (.ref av)] H2 := fun z => by
          have g := go z
          refine ⟨_, rfl, _, _, _, _, rfl, rfl, hv, at0, rfl, _, rfl, ?_⟩
          rw [num0]
          refine ite2 (fun k => ?_) (fun k => ?_)
          · rw [if_pos (of_decide_eq_true k)] at pp
            refine ⟨_, rfl, _, _, _, _, _, rfl, MO2.ob, T.c_Model, T.n_Model_populations, rfl, _, rfl, .inl ⟨_, .inl hc⟩, _, rfl, kvs, Sum.inl (c : Int), hc, rfl, fun v hv => ?_, fun hn => ?_⟩
            · have F : Fm (fun y => y = d.po) H2 (upd H2 d.po (.dK (dropK kvs (Sum.inl (c : Int))))) := (Fm.refl H2).put hc id (.inr rfl)
              exact g _ F ⟨_, _, upd_same, pop_drop wf.ncl hen hpr hP, pp⟩
            · have any' := any
              rw [show valV kvs (Sum.inl ((⟨0, c, 0, 0, q⟩ : Lrx9.Entry).class_ : Int)) = none from hn] at any'
              have ec : Qu.cutE ⟨0, c, 0, 0, q⟩ es = es := Qu.cut_of_none (by rw [any_perm pm, ← any']; exact Bool.false_ne_true)
              rw [ec] at pp
              exact g _ (Fm.refl H2) ⟨kvs, es, hc, hpr, pp⟩
          · rw [if_neg (fun z => k (decide_eq_true z))] at pp
            refine ⟨_, rfl, _, _, _, _, rfl, rfl, hv, at0, _, rfl, _, _, _, _, _, rfl, MO2.ob, T.c_Model, T.n_Model_populations, rfl, _, rfl, d.po, _, rfl, DPut.k (k := Sum.inl (c : Int)) hc size, ?_⟩
            have F : Fm (fun y => y = d.po) H2 (upd H2 d.po (.dK (putK kvs (Sum.inl (c : Int)) (.int q.num)))) := (Fm.refl H2).put hc id (.inr rfl)
            exact g _ F ⟨_, _, upd_same, pop_set wf.ncl hen hpr hP, pp⟩
        refine ⟨_, rfl, _, rfl, _, rfl, ?_⟩
        cases once with
        | false => exact iteT ⟨_, rfl, _, _, _, rfl, true, ⟨col, 5⟩, rfl, rfl, rfl, fun _ => key2 rfl, fun z => Bool.noConfusion z⟩
        | true =>
          refine iteF ⟨_, rfl, _, rfl, _, _, _, _, _, rfl, MO2.ob, T.c_Model, T.n_Model_populations, rfl, d.po, _, rfl, DGet.k (k := Sum.inl (c : Int)) hc, ?_⟩
          rw [show (valV kvs (Sum.inl (c : Int))).isSome = _ from any]
          exact ⟨_, rfl, _, _, _, rfl, !(M.populations.any fun x => Lrx9.samePlace x ⟨0, c, 0, 0, q⟩), ⟨col, 5⟩, rfl, rfl, rfl, fun z => key2 (by rw [z]; rfl), fun z => bad (by rw [z]; rfl)⟩
      · rw [← pop_eq] at z
        rw [z, Bool.and_false] at hQ
        simp only [if_false, Bool.false_eq_true] at hQ
        exact (show LineF K (SR r) H E _ from hQ).less F02
end Q
set_option Elab.async false
set_option linter.all false
set_option maxRecDepth 100000
set_option maxHeartbeats 4000000
namespace Q
open PySem PySem.Spec PyProof.Rows L2
def disc : List (List Nat) := [Lrx9.keyword 8, Lrx9.keyword 9, Lrx9.keyword 10, Lrx9.keyword 11]
theorem dis_words : (["fifo", "lifo", "share", "delay"] : List Str) = disc.map sT := by decide +kernel
theorem dis_map {K : PySem.W.Frag} : t_DISCIPLINES.map (He.Dv.v K) = words disc := by
  show (["fifo", "lifo", "share", "delay"] : List Str).map V.str = _
  rw [dis_words, List.map_map]
  rfl
theorem dis_flat {K : PySem.W.Frag} : (t_DISCIPLINES.map (He.Dv.v K)).all flatV = true := by
  rw [dis_map]
  exact flat_words _
theorem dis_yes {K : PySem.W.Frag} {x : List Nat} : (if false = true then !inV (V.str (sT x)) (t_DISCIPLINES.map (He.Dv.v K)) else inV (V.str (sT x)) (t_DISCIPLINES.map (He.Dv.v K))) = disc.contains x := by
  rw [if_neg Bool.false_ne_true, dis_map]
  exact in_words _
theorem dis_find (x : List Nat) : (List.range 4).find? (fun d => Lrx9.keyword (8 + d) == x) = disc.findIdx? fun y => y == x := by
  show ([0, 1, 2, 3] : List Nat).find? (fun d => Lrx9.keyword (8 + d) == x) = _
  unfold disc
  simp only [List.find?_cons, List.find?_nil, List.findIdx?_cons, List.findIdx?_nil, Nat.add_zero]
  cases (Lrx9.keyword 8 == x) with
  | true => rfl
  | false =>
    cases (Lrx9.keyword 9 == x) with
    | true => rfl
    | false =>
      cases (Lrx9.keyword 10 == x) with
      | true => rfl
      | false => cases (Lrx9.keyword 11 == x) <;> rfl
theorem kw_at (rest : List Lrx9.Token) (k : Nat) : Lrx9.isKeywordAt rest k = isAt rest 0 (Lrx9.keyword k) := by cases rest <;> rfl
theorem whole_low (v : Fr) (lo hi : Nat) : Lrx9.isInteger lo hi v = (decide (v.den = 1) && within v (lo : Int) (hi : Int)) := by
  unfold Lrx9.isInteger within
  by_cases c : v.den = 1
  · rw [c]
    simp
  · rw [decide_eq_false c, beq_eq_false_iff_ne.mpr c, Bool.false_and, Bool.false_and]
theorem serv_eq (v : Fr) (d : Nat) : (Lrx9.isInteger 1 100 v && (d != 3 || v == Lrx1.one)) = (decide (v.den = 1) && within v 1 (if d = 3 then 1 else 100)) := by
  rw [whole_low]
  by_cases c : d = 3
  · rw [if_pos c, c]
    by_cases k : v.den = 1
    · rw [decide_eq_true k, Bool.true_and, Bool.true_and]
      unfold within
      rw [k]
      by_cases m : v.num = 1
      · have e : v = Lrx1.one := by
          obtain ⟨n, d'⟩ := v
          simp only at k m
          rw [k, m]
          rfl
        rw [e]; rfl
      · have e : (v == Lrx1.one) = false := by
          rw [beq_eq_false_iff_ne]
          intro z
          rw [z] at m
          exact m rfl
        rw [e]
        simp only [bne_self_eq_false, Bool.or_false, Bool.and_false]
        symm
        rw [Bool.and_eq_false_iff, decide_eq_false_iff_not, decide_eq_false_iff_not]
        simp
        omega
    · rw [decide_eq_false k, Bool.false_and, Bool.false_and, Bool.false_and]
  · rw [if_neg c]
    have e : (d != 3) = true := by simpa using c
    rw [e, Bool.true_or, Bool.and_true]
    rfl
theorem options_eq {M : Lrx9.Model} {len d : Nat} {name : List Nat} {rest : List Lrx9.Token} : Lrx9.stationOptions M len ⟨name, d, 1, 0⟩ rest =
    match manyAt M (Lrx9.keyword 12) 1 (if d = 3 then 1 else 100) rest len with
    | .error f => .error f
    | .ok (o, m) => match manyAt M (Lrx9.keyword 13) (o.getD 1) 1000 m len with
      | .error f => .error f
      | .ok (o2, after) => .ok (⟨name, d, (o.getD 1).toNat, (o2.getD 0).toNat⟩, after) := by
  have second : ∀ (sv : Nat) (svi : Int) (m : List Lrx9.Token), (sv : Int) = svi → (if Lrx9.isKeywordAt m 13 = true then (match Lrx9.evaluate M len (m.drop 1) with
      | .error fault => .error fault
      | .ok (value, after) => if Lrx9.isInteger sv 1000 value = true then .ok (⟨name, d, sv, value.num.toNat⟩, after) else .error ⟨Lrx9.columnOf (m.drop 1) len, 7⟩)
      else .ok (⟨name, d, sv, 0⟩, m)) = match manyAt M (Lrx9.keyword 13) svi 1000 m len with
      | .error f => (.error f : Except Lrx9.Fault (Lrx9.Station × List Lrx9.Token))
      | .ok (o2, after) => .ok (⟨name, d, sv, (o2.getD 0).toNat⟩, after) := by
    rintro sv svi m rfl
    unfold manyAt
    rw [kw_at]
    by_cases k : isAt m 0 (Lrx9.keyword 13) = true
    · rw [if_pos k, if_pos k]
      cases Lrx9.evaluate M len (m.drop 1) with
      | error f => rfl
      | ok y =>
        simp only
        rw [whole_low]
        show (if (decide (y.1.den = 1) && within y.1 (sv : Int) 1000) = true then _ else _) = _
        by_cases c : (decide (y.1.den = 1) && within y.1 (sv : Int) 1000) = true
        · rw [if_pos c, if_pos c]; rfl
        · rw [if_neg c, if_neg c]
    · rw [if_neg k, if_neg k]; rfl
  unfold Lrx9.stationOptions
  simp only
  rw [kw_at]
  have em : manyAt M (Lrx9.keyword 12) 1 (if d = 3 then 1 else 100) rest len = if isAt rest 0 (Lrx9.keyword 12) = true then (match Lrx9.evaluate M len (rest.drop 1) with
      | .error f => .error f
      | .ok (v, more) => if (decide (v.den = 1) && within v 1 (if d = 3 then 1 else 100)) = true then .ok (some v.num, more) else .error ⟨Lrx9.columnOf (rest.drop 1) len, 7⟩)
      else .ok (none, rest) := rfl
  rw [em]
  by_cases k : isAt rest 0 (Lrx9.keyword 12) = true
  · rw [if_pos k, if_pos k]
    cases Lrx9.evaluate M len (rest.drop 1) with
    | error f => rfl
    | ok y =>
      simp only
      rw [serv_eq]
      by_cases c : (decide (y.1.den = 1) && within y.1 1 (if d = 3 then 1 else 100)) = true
      · rw [if_pos c, if_pos c]
        simp only [Option.getD_some]
        refine second _ _ _ ?_
        have c2 := of_decide_eq_true (Bool.and_eq_true_iff.mp (Bool.and_eq_true_iff.mp c).2).1
        have c3 := of_decide_eq_true (Bool.and_eq_true_iff.mp c).1
        rw [c3] at c2
        omega
      · rw [if_neg c, if_neg c]
  · rw [if_neg k, if_neg k]
    simp only [Option.getD_none]
    exact second 1 1 rest rfl
theorem many_pos {M : Lrx9.Model} {kw : List Nat} {lo hi : Int} {rest m : List Lrx9.Token} {len : Nat} {o : Option Int} (h : manyAt M kw lo hi rest len = .ok (o, m)) : ∀ i, o = some i → lo ≤ i ∧ i ≤ hi := by
  unfold manyAt at h
  split at h
  · split at h
    · cases h
    · split at h
      · rename_i c
        cases h
        intro i e
        cases e
        unfold within at c
        have c1 := Bool.and_eq_true_iff.mp c
        have c2 := Bool.and_eq_true_iff.mp c1.2
        have c3 := of_decide_eq_true c1.1
        have c4 := of_decide_eq_true c2.1
        have c5 := of_decide_eq_true c2.2
        rw [c3] at c4 c5
        exact ⟨by simpa using c4, by simpa using c5⟩
      · cases h
  · cases h
    intro i e
    cases e
theorem w_servers : ("servers" : Str) = sT (Lrx9.keyword 12) := by decide +kernel
theorem w_capacity : ("capacity" : Str) = sT (Lrx9.keyword 13) := by decide +kernel
def sp_define_station (K : PySem.W.Frag) : Sp := sp3 fun a b c H Q E => ∃ (r : RD) (d : MD) (M : Lrx9.Model) (col : Nat), a = .ref r.a ∧ b = .ref d.a ∧ c = .int (col : Int) ∧ RdO K H r ∧ MdO K H d M ∧ Qu.Wf M ∧ RdG r ∧ GivesM K H r d Q E (Qu.stStation M r.rest r.len col)
/-- behind an optional number: the list and the reader -/
def OptM (K : PySem.W.Frag) (H : Hp) (r : RD) (d : MD) (M : Lrx9.Model) (m : List Lrx9.Token) (b : Addr) (i : Int) (H' : Hp) : Prop :=
  Fm (SR r) H H' ∧ ∃ n l, RdO K H' (r.go n) ∧ (r.go n).rest = m ∧ MdO K H' d M ∧ H' b = some (.lst (.int i :: l))
theorem optV_len (o : Option Int) (v : V) : (optV o).length + [v].length ≤ sizeLine := by
  cases o with
  | none => show 1 ≤ sizeLine; decide
  | some i => show 2 ≤ sizeLine; decide
theorem optV_cat (o : Option Int) (i : Int) : optV o ++ [.int i] = .int (o.getD i) :: (if o.isSome = true then [.int i] else []) := by cases o <;> rfl
theorem ok_define_station {w : World} {K : PySem.W.Frag} {mg : Str → Option Value} {base : Heap} (T : Txt w K mg) : OKF w K mg base (L2N.CX prog w) 10 d_define_station ["reader", "model", "keyword"] (sp_define_station K) := by
  refine okf_mk (k := 9) T 63 rfl sc_define_station rfl rfl (fun _ _ _ _ _ _ us hl => match us, hl with | [_, _, _], _ => rfl) sp3_len (fun f cdv A outer s H vs Q E hr h => ?_)
  refine ⟨_, (pss_cons (ps_set (i := 3) sc_define_station.nd rfl (Or.inl rfl) (pe_ok (ok_take_new_name T) (hr.mono (by decide)) rfl T.g_take_new_name (L2N.passes_call (L2N.takes_of rfl rfl rfl rfl) fun _ _ _ _ h => h) (pa_cons (pv 0) (pa_cons (pv 1) pa_nil))))
      (pss_cons (ps_asg (pe_ok (ok_take_word T) (hr.mono (by decide)) rfl T.g_take_word (L2N.passes_call (L2N.takes_of rfl rfl rfl rfl) fun _ _ _ _ h => h) (pa_cons (pv 0) pa_nil)) (pg_tup rfl (pgs_cons (pg_name (i := 4) sc_define_station.nd rfl (Or.inl rfl)) (pgs_cons (pg_name (i := 5) sc_define_station.nd rfl (Or.inl rfl)) pgs_nil))))
      (pss_cons (ps_expr (pe_ok (ok_need T) (hr.mono (by decide)) rfl T.g_need (L2N.passes_call (L2N.takes_of rfl rfl rfl rfl) fun _ _ _ _ h => h) (pa_cons (pe_cmpR (op_in_seq) (pv 5) (pe_gref rfl (T.g_DISCIPLINES)) (by rfl)) (pa_cons (pv 4) (pa_cons (pe_gint rfl (T.int_UNEXPECTED)) pa_nil)))))
      (pss_cons (ps_set (i := 6) sc_define_station.nd rfl (Or.inl rfl) (pe_bm PySem.F.plainAttrs_tuple PySem.F.slot_tuple_index PySem.F.type_tuple_index mt_tup_index (pe_gref rfl (T.g_DISCIPLINES)) (pa_cons (pv 5) pa_nil)))
      (pss_mid (ps_set (i := 7) sc_define_station.nd rfl (Or.inl rfl) (pe_op op_cat (pe_ok (ok_take_many T) (hr.mono (by decide)) rfl T.g_take_many (L2N.passes_call (L2N.takes_of rfl rfl rfl rfl) fun _ _ _ _ h => h) (pa_cons (pv 0) (pa_cons (pv 1) (pa_cons pe_str (pa_cons pe_int (pa_cons (pe_ifExp (pt_cmpR op_eq (pv 6) (pe_gint rfl (T.int_DELAY)) (nomark _)) pe_int (pe_gint rfl (T.int_MOST_SERVERS))) pa_nil)))))) (pe_lst (pa_cons pe_int pa_nil))))
      (pss_mid (ps_set (i := 8) sc_define_station.nd rfl (Or.inl rfl) (pe_op op_cat (pe_ok (ok_take_many T) (hr.mono (by decide)) rfl T.g_take_many (L2N.passes_call (L2N.takes_of rfl rfl rfl rfl) fun _ _ _ _ h => h) (pa_cons (pv 0) (pa_cons (pv 1) (pa_cons pe_str (pa_cons (pe_ix ix_list (pv 7) pe_int (fun _ _ => rfl)) (pa_cons (pe_gint rfl (T.int_MOST_CAPACITY)) pa_nil)))))) (pe_lst (pa_cons pe_int pa_nil))))
      (pss_cons (ps_expr (pe_ok (ok_take_end T) (hr.mono (by decide)) rfl T.g_take_end (L2N.passes_call (L2N.takes_of rfl rfl rfl rfl) fun _ _ _ _ h => h) (pa_cons (pv 0) pa_nil)))
      (pss_cons (ps_expr (pe_ok (ok_need T) (hr.mono (by decide)) rfl T.g_need (L2N.passes_call (L2N.takes_of rfl rfl rfl rfl) fun _ _ _ _ h => h) (pa_cons (pe_cmpR op_lt (pe_callB call_len_seq rfl T.f_len boot_len (pa_cons (pe_fld (pv 1) rfl) pa_nil)) (pe_gint rfl (T.int_MOST_STATIONS)) (nomark _)) (pa_cons (pv 2) (pa_cons (pe_gint rfl (T.int_TOO_MANY)) pa_nil)))))
      (pss_one (ps_expr (pe_bm PySem.F.plainAttrs_list PySem.F.slot_list_append PySem.F.type_list_append mt_append (pe_fld (pv 1) rfl) (pa_cons (pe_mk (ok_Station_init T) T.k_Station (hr.mono (by decide)) rfl T.g_Station pass0 (pa_cons (pv 3) (pa_cons (pv 6) (pa_cons (pe_ix ix_list (pv 7) pe_int (fun _ _ => rfl)) (pa_cons (pe_ix ix_list (pv 8) pe_int (fun _ _ => rfl)) pa_nil))))) pa_nil)))))))))))), ?_⟩
  obtain ⟨_, _, _, rfl, r, d, M, col, rfl, rfl, rfl, R, MO, wf, G, hQ⟩ := h
  refine ⟨_, rfl, _, rfl, _, _, rfl, r, d, M, rfl, rfl, R, MO, wf, G.tok, ?_⟩
  unfold Qu.stStation at hQ
  cases hn : Lrx9.newName M r.rest r.len with
  | error f =>
    rw [hn] at hQ
    exact hQ
  | ok y =>
    obtain ⟨name, more⟩ := y
    rw [hn] at hQ
    simp only at hQ ⊢
    intro H1 F1 R1 er1 nm
    have MO1 := MO.fm F1 R.rds
    refine ⟨_, rfl, _, rfl, r.go 1, rfl, R1, ?_⟩
    rw [er1]
    show (match Lrx9.readName more r.len with | .error f => _ | .ok (t, m) => _)
    cases hw : Lrx9.readName more r.len with
    | error f =>
      have hf : f = ⟨Lrx9.columnOf more r.len, 3⟩ ∧ (List.range 4).find? (fun d => Lrx9.isKeywordAt more (8 + d)) = none := by
        cases more with
        | nil =>
          simp only [Lrx9.readName] at hw
          cases hw
          exact ⟨rfl, rfl⟩
        | cons t m =>
          simp only [Lrx9.readName] at hw
          split at hw
          · rename_i k
            cases hw
            refine ⟨rfl, List.find?_eq_none.mpr fun x _ => ?_⟩
            simp only [Lrx9.isKeywordAt, beq_eq_false_iff_ne.mpr k, Bool.false_and]
            exact Bool.false_ne_true
          · cases hw
      rw [hf.2] at hQ
      rw [hf.1]
      exact (show LineF K (SR r) H E _ from hQ).less F1
    | ok y2 =>
      obtain ⟨t, m2⟩ := y2
      have ht : more = t :: m2 ∧ t.kind = 0 := by
        cases more with
        | nil => simp [Lrx9.readName] at hw
        | cons t' m' =>
          simp only [Lrx9.readName] at hw
          split at hw
          · cases hw
          · rename_i k
            cases hw
            exact ⟨rfl, by simpa using k⟩
      obtain ⟨rfl, k0⟩ := ht
      have ef : (List.range 4).find? (fun d => Lrx9.isKeywordAt (t :: m2) (8 + d)) = disc.findIdx? fun y => y == t.text := by
        rw [← dis_find]
        congr 1
        funext dd
        simp only [Lrx9.isKeywordAt, k0, beq_self_eq_true, Bool.true_and]
        rw [Bool.eq_iff_iff, beq_iff_eq, beq_iff_eq]
        exact eq_comm
      rw [ef] at hQ
      simp only at hQ ⊢
      intro b H2 F2 R2 er2 hs2 _ _
      rw [go_go] at R2 er2
      have F02 := F1.trans (show Fm (SR r) H1 H2 from F2)
      have MO2 := MO1.fm (S := SR r) F2 (show Rds (SR r) H1 from R1.rds)
      refine ⟨b, _, rfl, hs2, rfl, _, _, rfl, _, _, rfl, rfl, ?_⟩
      refine ⟨_, rfl, _, _, rfl, .inr (T.t_DISCIPLINES _), rfl, dis_flat, ?_⟩
      rw [dis_yes]
      refine ⟨_, rfl, _, _, _, rfl, disc.contains t.text, ⟨t.column, 3⟩, rfl, rfl, rfl, fun z => ?_, fun z => ?_⟩
      · rw [← mem_of_find] at z
        obtain ⟨dn, hd⟩ := Option.isSome_iff_exists.mp z
        rw [hd] at hQ
        simp only [List.drop_succ_cons, List.drop_zero] at hQ
        obtain ⟨w1, w2⟩ := word_index hd
        have dlt := (List.findIdx?_eq_some_iff_getElem.mp hd).1
        have d4 : dn < 4 := dlt
        have i1 : (["fifo", "lifo", "share", "delay"] : List Str)[dn]? = some (sT t.text) := by
          rw [dis_words, List.getElem?_map]
          unfold words at w1
          rw [List.getElem?_map] at w1
          cases e : disc[dn]? with
          | none => rw [e] at w1; cases w1
          | some x =>
            rw [e] at w1
            injection w1 with w1
            injection w1 with w1
            rw [← w1]
            rfl
        have i2 : ∀ m, m < dn → (["fifo", "lifo", "share", "delay"] : List Str)[m]? ≠ some (sT t.text) := fun m hm e => by
          rw [dis_words, List.getElem?_map] at e
          cases e3 : disc[m]? with
          | none => rw [e3] at e; cases e
          | some x =>
            rw [e3] at e
            injection e with e
            have w3 : (words disc)[m]? = some (.str (sT x)) := by
              unfold words
              rw [List.getElem?_map, e3]
              rfl
            have := w2 m _ hm w3
            rw [e] at this
            exact absurd (show (sT t.text == sT t.text) = true from beq_self_eq_true _) (by rw [show (sT t.text == sT t.text) = false from this]; exact Bool.false_ne_true)
        refine ⟨ty_DISC T H2, _, rfl, _, ["fifo", "lifo", "share", "delay"], _, dn, rfl, rfl, T.t_DISCIPLINES H2, i1, i2, ?_⟩
        rw [options_eq] at hQ
        have h3 : ∃ hi : Int, hi = (if dn = 3 then 1 else 100) ∧ (dn = 3 → hi = 1) ∧ (¬ dn = 3 → hi = 100) := ⟨_, rfl, fun k => if_pos k, fun k => if_neg k⟩
        obtain ⟨hi, ehi, hi1, hi2⟩ := h3
        rw [← ehi] at hQ
        clear ehi
        have e3 : decide (V.int (dn : Int) = V.int 3) = decide (dn = 3) := by rw [show (3 : Int) = ((3 : Nat) : Int) from rfl, dec_ieq, Bool.beq_eq_decide_eq]
        refine ⟨fun σ H' => ∃ (bs : Addr) (o : Option Int) (m3 : List Lrx9.Token), σ = [some (.ref r.a), some (.ref d.a), some (.int (col : Int)), some (.str (sT name)), some (.int (t.column : Int)), some (.str (sT t.text)), some (.int (dn : Int)), some (.ref bs), none] ∧
          manyAt M (Lrx9.keyword 12) 1 hi m2 r.len = .ok (o, m3) ∧ OptM K H r d M m3 bs (o.getD 1) H', ?_, ?_⟩
        · refine ⟨_, rfl, _, rfl, _, rfl, rfl, _, rfl, ?_⟩
          rw [e3]
          have fin : ∀ (bs : Addr) (H3 : Hp) (n3 : Nat) (o : Option Int) (m3 : List Lrx9.Token), manyAt M (Lrx9.keyword 12) 1 hi m2 r.len = .ok (o, m3) → Fm (SR (r.go 2)) H2 H3 → RdO K H3 ((r.go 2).go n3) → ((r.go 2).go n3).rest = m3 → H3 bs = some (.lst (optV o)) → ∀ p q, H3 p = none → upd H3 p (.lst [V.int 1]) q = none → OptM K H r d M m3 q (o.getD 1) (upd (upd H3 p (.lst [V.int 1])) q (.lst (optV o ++ [V.int 1]))) := fun bs H3 n3 o m3 hm F3 R3 er3 hb3 p q hp hq => by
            rw [go_go] at R3 er3
            have F03 := F02.trans (show Fm (SR r) H2 H3 from F3)
            have s5 : Same H3 (upd (upd H3 p (.lst [V.int 1])) q (.lst (optV o ++ [V.int 1]))) := (Same.new hp).to hq
            exact ⟨F03.trans s5.fm, 2 + n3, _, R3.same s5, er3, (MO2.fm (S := SR r) F3 (show Rds (SR r) H2 from R2.rds)).same s5, by rw [upd_same, optV_cat]⟩
          have bad : ∀ f, manyAt M (Lrx9.keyword 12) 1 hi m2 r.len = .error f → LineF K (SR r) H2 E f := fun f hm => by
            rw [hm] at hQ
            exact (show LineF K (SR r) H E _ from hQ).goS F02
          clear hQ
          refine ite2 (fun c => ?_) (fun c => ?_)
          · have eh := hi1 (of_decide_eq_true c)
            subst eh
            refine ⟨_, _, _, _, _, rfl, r.go 2, d, M, Lrx9.keyword 12, 1, 1, rfl, rfl, congrArg V.str w_servers, rfl, rfl, (by unfold SmI; decide), (by unfold SmI; decide), R2, MO2, wf, G.go 2, ?_⟩
            rw [show (r.go 2).rest = m2 from er2]
            show (match manyAt M (Lrx9.keyword 12) 1 1 m2 r.len with | .error f => _ | .ok (o, m) => _)
            cases hm : manyAt M (Lrx9.keyword 12) 1 1 m2 r.len with
            | error f => exact bad f hm
            | ok y3 =>
              obtain ⟨o, m3⟩ := y3
              simp only
              intro bs H3 n3 F3 R3 er3 _ hb3
              exact ⟨by show 1 ≤ sizeLine; decide, fun p hp => ⟨bs, p, _, _, rfl, rfl, Same.new hp _ _ hb3, upd_same, optV_len o _, fun q hq => ⟨q, o, m3, rfl, rfl, fin bs H3 n3 o m3 hm F3 R3 er3 hb3 p q hp hq⟩⟩⟩
          · have eh := hi2 (fun z => c (decide_eq_true z))
            subst eh
            refine ⟨_, _, _, _, _, rfl, r.go 2, d, M, Lrx9.keyword 12, 1, 100, rfl, rfl, congrArg V.str w_servers, rfl, rfl, (by unfold SmI; decide), (by unfold SmI; decide), R2, MO2, wf, G.go 2, ?_⟩
            rw [show (r.go 2).rest = m2 from er2]
            show (match manyAt M (Lrx9.keyword 12) 1 100 m2 r.len with | .error f => _ | .ok (o, m) => _)
            cases hm : manyAt M (Lrx9.keyword 12) 1 100 m2 r.len with
            | error f => exact bad f hm
            | ok y3 =>
              obtain ⟨o, m3⟩ := y3
              simp only
              intro bs H3 n3 F3 R3 er3 _ hb3
              exact ⟨by show 1 ≤ sizeLine; decide, fun p hp => ⟨bs, p, _, _, rfl, rfl, Same.new hp _ _ hb3, upd_same, optV_len o _, fun q hq => ⟨q, o, m3, rfl, rfl, fin bs H3 n3 o m3 hm F3 R3 er3 hb3 p q hp hq⟩⟩⟩
        · rintro σ H3 ⟨bs, o, m3, rfl, hm, F3, n, l, R3, er3, MO3, hb3⟩
          have hi3 : hi ≤ 1000 := by
            by_cases c : dn = 3
            · rw [hi1 c]; decide
            · rw [hi2 c]; decide
          have op : 1 ≤ o.getD 1 ∧ o.getD 1 ≤ 1000 := by
            cases o with
            | none => decide
            | some i =>
              have := many_pos hm i rfl
              simp only [Option.getD_some]
              omega
          rw [hm] at hQ
          simp only at hQ
          refine ⟨fun σ H' => ∃ (bc : Addr) (o2 : Option Int) (m4 : List Lrx9.Token), σ = [some (.ref r.a), some (.ref d.a), some (.int (col : Int)), some (.str (sT name)), some (.int (t.column : Int)), some (.str (sT t.text)), some (.int (dn : Int)), some (.ref bs), some (.ref bc)] ∧
            manyAt M (Lrx9.keyword 13) (o.getD 1) 1000 m3 r.len = .ok (o2, m4) ∧ OptM K H r d M m4 bc (o2.getD 0) H' ∧ H' bs = some (.lst (.int (o.getD 1) :: l)), ?_, ?_⟩
          · refine ⟨_, rfl, _, rfl, _, rfl, _, _, _, _, rfl, rfl, SqL.of hb3, at0, _, _, _, _, _, rfl, r.go n, d, M, Lrx9.keyword 13, o.getD 1, 1000, rfl, rfl, congrArg V.str w_capacity, rfl, rfl, ?_, (by unfold SmI; decide), R3, MO3, wf, G.go n, ?_⟩
            · unfold SmI
              have : (2 : Nat) ^ 40 = 1099511627776 := by decide
              omega
            rw [er3]
            show (match manyAt M (Lrx9.keyword 13) (o.getD 1) 1000 m3 r.len with | .error f => _ | .ok (o, m) => _)
            cases hm2 : manyAt M (Lrx9.keyword 13) (o.getD 1) 1000 m3 r.len with
            | error f =>
              rw [hm2] at hQ
              exact (show LineF K (SR r) H E _ from hQ).goS F3
            | ok y4 =>
              obtain ⟨o2, m4⟩ := y4
              simp only
              intro bc H4 n4 F4 R4 er4 _ hb4
              rw [go_go] at R4 er4
              have hbs4 : H4 bs = some (.lst (.int (o.getD 1) :: l)) := F4.st _ _ hb3 fun z => absurd (show bs = r.a from z).symm (R3.nl hb3)
              refine ⟨by show 1 ≤ sizeLine; decide, fun p hp => ⟨bc, p, _, _, rfl, rfl, Same.new hp _ _ hb4, upd_same, optV_len o2 _, fun q hq => ⟨q, o2, m4, rfl, rfl, ⟨?_, n + n4, _, R4.same ((Same.new hp).to hq), er4, (MO3.fm (S := SR r) F4 (show Rds (SR r) H3 from R3.rds)).same ((Same.new hp).to hq), by rw [upd_same, optV_cat]⟩, ((Same.new hp).to hq) _ _ hbs4⟩⟩⟩
              exact (F3.trans (show Fm (SR r) H3 H4 from F4)).trans ((Same.new hp).to hq).fm
          · rintro σ H4 ⟨bc, o2, m4, rfl, hm2, ⟨F4, n4, l2, R4, er4, MO4, hb4⟩, hbs4⟩
            have op2 : 0 ≤ o2.getD 0 := by
              cases o2 with
              | none => decide
              | some i =>
                have := many_pos hm2 i rfl
                simp only [Option.getD_some]
                omega
            rw [hm2] at hQ
            simp only at hQ
            refine ⟨_, rfl, _, rfl, r.go n4, rfl, R4, ?_⟩
            rw [er4]
            show (match Lrx9.isNothingLeft m4 r.len with | .error f => _ | .ok _ => _)
            cases hl : Lrx9.isNothingLeft m4 r.len with
            | error f =>
              rw [hl] at hQ
              exact (show LineF K (SR r) H E _ from hQ).less F4
            | ok _ =>
              rw [hl] at hQ
              simp only at hQ ⊢
              obtain ⟨vst, st1, st2⟩ := MO4.st
              have lst : vst.length = M.stations.length := paired_len st2
              refine ⟨_, rfl, _, _, _, _, _, rfl, MO4.ob, T.c_Model, T.n_Model_stations, rfl, _, _, rfl, .inl (SqL.of st1), _, _, rfl, rfl, _, rfl, _, _, _, rfl, decide ((vst.length : Int) < 8), ⟨col, 8⟩, rfl, rfl, rfl, fun z2 => ?_, fun z2 => ?_⟩
              · have lt := of_decide_eq_true z2
                rw [if_neg (by simp only [Lrx9.maxStations]; omega)] at hQ
                refine ⟨_, rfl, _, _, _, _, _, rfl, MO4.ob, T.c_Model, T.n_Model_stations, rfl, .inl ⟨rfl, _, SqL.of st1⟩, _, rfl, _, rfl, _, rfl, _, _, _, _, rfl, rfl, SqL.of hbs4, at0, _, rfl, _, _, _, _, rfl, rfl, SqL.of hb4, at0, fun x dx hx hdx ne => ⟨_, _, _, _, _, rfl, x, dx, ⟨name, dn, (o.getD 1).toNat, (o2.getD 0).toNat⟩, rfl, rfl, rfl, congrArg V.int (by simp only; omega), congrArg V.int (by simp only; omega), upd_same, fun H6 e6 => ⟨rfl, ?_⟩⟩⟩
                rw [upd_upd] at e6
                have hx' : upd H4 dx (.own x) x = none := by rw [upd_ne (Ne.symm ne)]; exact hx
                have s6 : Same H4 H6 := e6 ▸ (Same.new hdx).to hx'
                have hx6 : H6 x = some (.ins (cStation K) dx (staF ⟨name, dn, (o.getD 1).toNat, (o2.getD 0).toNat⟩)) := e6 ▸ upd_same
                clear e6
                have st6 := s6 _ _ st1
                refine ⟨d.st, vst, .ref x, rfl, rfl, st6, Nat.lt_of_lt_of_le (show _ < 8 by omega) (by decide), ?_⟩
                have F7 : Fm (fun y => y = d.st) H6 (upd H6 d.st (.lst (vst ++ [.ref x]))) := (Fm.refl H6).put st6 id (.inr rfl)
                refine hQ _ (((F4.trans s6.fm).imp fun _ z => .inl z).trans (F7.imp fun _ z => .inr (by rw [show _ = d.st from z]; simp only [CT, List.mem_cons, true_or, or_true]))) ?_
                refine (MO4.same s6).set_st F7 ⟨_, upd_same, paired_snoc ⟨x, dx, rfl, ?_⟩ (paired_imp (fun _ _ ⟨b, dx, z1, z2⟩ => ⟨b, dx, z1, ?_⟩) st2)⟩
                · exact F7.st _ _ hx6 fun z => by
                    rw [show x = d.st from z, st6] at hx6
                    cases hx6
                · exact F7.st _ _ (s6 _ _ z2) fun z => by
                    have := s6 _ _ z2
                    rw [show b = d.st from z, st6] at this
                    cases this
              · have lt := of_decide_eq_false z2
                rw [if_pos (by simp only [Lrx9.maxStations]; omega)] at hQ
                exact (show LineF K (SR r) H E _ from hQ).less F4
      · rw [← mem_of_find] at z
        have hd : disc.findIdx? (fun y => y == t.text) = none := by
          cases e : disc.findIdx? (fun y => y == t.text) with
          | none => rfl
          | some i => rw [e] at z; cases z
        rw [hd] at hQ
        exact (show LineF K (SR r) H E _ from hQ).less F02
end Q
set_option Elab.async false
set_option linter.all false
set_option maxRecDepth 100000
set_option maxHeartbeats 4000000
namespace Q
open PySem PySem.Spec PyProof.Rows L2
/-! ### tokens as data -/
def tokD (t : Lrx9.Token) : PyData := .tuple [.int (t.kind : Int), .int (t.column : Int), if t.kind = 1 then .tuple [.int t.value.num, .int (t.value.den : Int)] else .str (sT t.text)]
theorem tok_dp {K : PySem.W.Frag} {H : Hp} {v : V} {t : Lrx9.Token} (h : TokV K H v t) : Dp K H v (tokD t) := by
  obtain ⟨a, x, rfl, h1, h2, h3⟩ := h
  refine .tup h1 (.cons (.int _) (.cons (.int _) (.cons ?_ .nil)))
  by_cases c : t.kind = 1
  · rw [if_pos c]
    obtain ⟨b, rfl, hb⟩ := h2 c
    exact dp2 hb
  · rw [if_neg c, h3 c]
    exact .str _
theorem toks_dp {K : PySem.W.Frag} {H : Hp} : ∀ {vs : List V} {ts : List Lrx9.Token}, Paired (TokV K H) vs ts → DpAll K H vs (ts.map tokD)
  | _, _, .nil => .nil
  | _, _, .cons h r => .cons (tok_dp h) (toks_dp r)
theorem strOk_sT {l : List Nat} (h : ∀ b ∈ l, b < 128) : PyData.strOk (sT l) = true := by
  unfold PyData.strOk sT
  simp only [List.all_toArray, List.all_eq_true, decide_eq_true_eq]
  intro b hb
  have := h b hb
  omega
theorem tokD_lay (t : Lrx9.Token) (lo : ∀ b ∈ t.text, b < 128) : (tokD t).canLay0 = true ∧ (tokD t).depth ≤ 2 := by
  unfold tokD
  by_cases c : t.kind = 1
  · rw [if_pos c]
    exact ⟨by simp [PyData.canLay0, PyData.canLayAll0], by simp [PyData.depth, PyData.depthAll]⟩
  · rw [if_neg c]
    exact ⟨by simp [PyData.canLay0, PyData.canLayAll0, strOk_sT lo], by simp [PyData.depth, PyData.depthAll]⟩
theorem toksD_lay : ∀ ts : List Lrx9.Token, (∀ t ∈ ts, ∀ b ∈ t.text, b < 128) → PyData.canLayAll0 (ts.map tokD) = true ∧ PyData.depthAll (ts.map tokD) ≤ 2
  | [], _ => ⟨by simp [PyData.canLayAll0], by simp [PyData.depthAll]⟩
  | t :: ts, lo => by
    have h1 := tokD_lay t (lo t List.mem_cons_self)
    have h2 := toksD_lay ts fun x hx => lo x (List.mem_cons_of_mem _ hx)
    refine ⟨by simp [PyData.canLayAll0, h1.1, h2.1], ?_⟩
    simp only [List.map_cons, PyData.depthAll]
    omega
theorem toks_shaped (ts : List Lrx9.Token) (lo : ∀ t ∈ ts, ∀ b ∈ t.text, b < 128) : SeqAt.shaped (.list (ts.map tokD)) = true := by
  have h := toksD_lay ts lo
  have h2 : PyData.depth (.list (ts.map tokD)) ≤ 64 := by
    simp only [PyData.depth]
    omega
  show (PyData.canLay0 (.list (ts.map tokD)) && decide (PyData.depth (.list (ts.map tokD)) ≤ 64)) = true
  rw [Bool.and_eq_true]
  exact ⟨by simp only [PyData.canLay0]; exact h.1, decide_eq_true h2⟩
theorem toks_ne (ts : List Lrx9.Token) : (!PyData.eqv (.list (ts.map tokD)) (.list [])) = !decide (ts = []) := by
  cases ts with
  | nil => simp [PyData.eqv, PyData.eqvAll]
  | cons t r => simp [PyData.eqv, PyData.eqvAll]
/-! ### a line -/
theorem defs_mem : ∀ k : Fin 8, decide (sT (Lrx9.keyword k.val) ∈ k_DEFINITIONS) = decide (k.val < 3) := by decide +kernel
theorem sets_mem : ∀ k : Fin 8, decide (sT (Lrx9.keyword k.val) ∈ k_SETTINGS) = decide (3 ≤ k.val) := by decide +kernel
theorem all_words : ∀ z ∈ k_DEFINITIONS ++ k_SETTINGS, ∃ k : Fin 8, z = sT (Lrx9.keyword k.val) := by decide +kernel
theorem kw_case (x : List Nat) : (∃ k : Fin 8, ((List.range 8).find? fun k => Lrx9.keyword k == x) = some k.val ∧ x = Lrx9.keyword k.val) ∨ (((List.range 8).find? fun k => Lrx9.keyword k == x) = none ∧ ¬ sT x ∈ k_DEFINITIONS ∧ ¬ sT x ∈ k_SETTINGS) := by
  cases e : (List.range 8).find? fun k => Lrx9.keyword k == x with
  | some k =>
    have h1 := List.find?_some e
    exact .inl ⟨⟨k, List.mem_range.mp (List.mem_of_find?_eq_some e)⟩, rfl, (beq_iff_eq.mp h1).symm⟩
  | none =>
    have no : ∀ z ∈ k_DEFINITIONS ++ k_SETTINGS, sT x ≠ z := fun z hz q => by
      obtain ⟨k, hk⟩ := all_words z hz
      have h2 := List.find?_eq_none.mp e k.val (List.mem_range.mpr k.isLt)
      rw [hk] at q
      exact h2 (beq_iff_eq.mpr (sT_inj q).symm)
    exact .inr ⟨rfl, fun m => no _ (List.mem_append_left _ m) rfl, fun m => no _ (List.mem_append_right _ m) rfl⟩
def SD (K : PySem.W.Frag) (f : Addr) (sp : Sp) : Prop := (f = He.fAd K d_define_constant.at_ ∧ sp = sp_define_constant K) ∨ (f = He.fAd K d_define_class.at_ ∧ sp = sp_define_class K) ∨ (f = He.fAd K d_define_station.at_ ∧ sp = sp_define_station K)
def SS5 (K : PySem.W.Frag) (f : Addr) (sp : Sp) : Prop := (f = He.fAd K d_set_service.at_ ∧ sp = sp_set_service K) ∨ (f = He.fAd K d_set_arrival.at_ ∧ sp = sp_set_arrival K) ∨ (f = He.fAd K d_set_route.at_ ∧ sp = sp_set_route K) ∨ (f = He.fAd K d_set_leave.at_ ∧ sp = sp_set_leave K) ∨ (f = He.fAd K d_set_population.at_ ∧ sp = sp_set_population K)
section
variable {w : World} {K : PySem.W.Frag} {mg : Str → Option Value} {base : Heap}
theorem kd_DEFINITIONS (T : Txt w K mg) : ∀ f sp, SD K f sp → HeldF prog w K mg base (L2N.CX prog w) 10 f sp := by
  rintro f sp (⟨rfl, rfl⟩ | ⟨rfl, rfl⟩ | ⟨rfl, rfl⟩)
  · exact (ok_define_constant T).held.up (by decide)
  · exact (ok_define_class T).held.up (by decide)
  · exact (ok_define_station T).held.up (by decide)
theorem kd_SETTINGS (T : Txt w K mg) : ∀ f sp, SS5 K f sp → HeldF prog w K mg base (L2N.CX prog w) 10 f sp := by
  rintro f sp (⟨rfl, rfl⟩ | ⟨rfl, rfl⟩ | ⟨rfl, rfl⟩ | ⟨rfl, rfl⟩ | ⟨rfl, rfl⟩)
  · exact (ok_set_service T).held.up (by decide)
  · exact (ok_set_arrival T).held.up (by decide)
  · exact (ok_set_route T).held.up (by decide)
  · exact (ok_set_leave T).held.up (by decide)
  · exact (ok_set_population T).held.up (by decide)
end
theorem w_kw : (["let", "class", "station", "serve", "arrive", "route", "leave", "population"] : List Str) = (List.range 8).map fun k => sT (Lrx9.keyword k) := by decide +kernel
theorem mem_k0 : (sT (Lrx9.keyword 0), (.glo "define_constant" : He.Dv)) ∈ t_DEFINITIONS := by
  rw [show sT (Lrx9.keyword 0) = ("let" : Str) by decide +kernel]
  exact List.mem_cons_self
theorem mem_k1 : (sT (Lrx9.keyword 1), (.glo "define_class" : He.Dv)) ∈ t_DEFINITIONS := by
  rw [show sT (Lrx9.keyword 1) = ("class" : Str) by decide +kernel]
  exact List.mem_cons_of_mem _ List.mem_cons_self
theorem mem_k2 : (sT (Lrx9.keyword 2), (.glo "define_station" : He.Dv)) ∈ t_DEFINITIONS := by
  rw [show sT (Lrx9.keyword 2) = ("station" : Str) by decide +kernel]
  exact List.mem_cons_of_mem _ (List.mem_cons_of_mem _ List.mem_cons_self)
theorem mem_k3 : (sT (Lrx9.keyword 3), (.glo "set_service" : He.Dv)) ∈ t_SETTINGS := by
  rw [show sT (Lrx9.keyword 3) = ("serve" : Str) by decide +kernel]
  exact List.mem_cons_self
theorem mem_k4 : (sT (Lrx9.keyword 4), (.glo "set_arrival" : He.Dv)) ∈ t_SETTINGS := by
  rw [show sT (Lrx9.keyword 4) = ("arrive" : Str) by decide +kernel]
  exact List.mem_cons_of_mem _ List.mem_cons_self
theorem mem_k5 : (sT (Lrx9.keyword 5), (.glo "set_route" : He.Dv)) ∈ t_SETTINGS := by
  rw [show sT (Lrx9.keyword 5) = ("route" : Str) by decide +kernel]
  exact List.mem_cons_of_mem _ (List.mem_cons_of_mem _ List.mem_cons_self)
theorem mem_k6 : (sT (Lrx9.keyword 6), (.glo "set_leave" : He.Dv)) ∈ t_SETTINGS := by
  rw [show sT (Lrx9.keyword 6) = ("leave" : Str) by decide +kernel]
  exact List.mem_cons_of_mem _ (List.mem_cons_of_mem _ (List.mem_cons_of_mem _ List.mem_cons_self))
theorem mem_k7 : (sT (Lrx9.keyword 7), (.glo "set_population" : He.Dv)) ∈ t_SETTINGS := by
  rw [show sT (Lrx9.keyword 7) = ("population" : Str) by decide +kernel]
  exact List.mem_cons_of_mem _ (List.mem_cons_of_mem _ (List.mem_cons_of_mem _ (List.mem_cons_of_mem _ List.mem_cons_self)))
def lineDo (M : Lrx9.Model) (am : Bool) (row : List Nat) : Except Lrx9.Fault Lrx9.Model := match Lrx9.tokens row with
  | .error f => .error f
  | .ok ts => Lrx9.statement M am row.length ts
def sp_do_line (K : PySem.W.Frag) : Sp := sp3 fun a b c H Q E => ∃ (d : MD) (M : Lrx9.Model) (row : List Nat) (once : Bool), a = .ref d.a ∧ RowV K H b row ∧ c = .bl once ∧ row.length ≤ 80 ∧ MdO K H d M ∧ Qu.Wf M ∧
  match lineDo M (!once) row with
  | .error f => LineS K H E f
  | .ok M' => ∀ H', Fm (CT d) H H' → MdO K H' d M' → Q .non H'
/-- what a definition's promise gives at the end of a line -/
theorem gives_end {K : PySem.W.Frag} {H H3 : Hp} {r : RD} {d : MD} {Q : VK} {E : XK} {x : Except Lrx9.Fault Lrx9.Model} (F : Fm (SR r) H H3) (hr : H r.a = none) (h : match x with | .error f => LineS K H E f | .ok M' => ∀ H', Fm (CT d) H H' → MdO K H' d M' → Q .non H') : GivesM K H3 r d Q E x := by
  have s : Same H H3 := F.same1 hr
  cases x with
  | error f => exact (show LineF K (fun _ => False) H E f from h).go s.fm fun b z => .inr (by rw [show b = r.a from z]; exact hr)
  | ok M' =>
    intro H' F' MO
    exact h H' ((s.fm (S := CT d)).then F' fun b z => z.elim (fun y => .inr (by rw [y]; exact hr)) .inl) MO
theorem ok_do_line {w : World} {K : PySem.W.Frag} {mg : Str → Option Value} {base : Heap} (T : Txt w K mg) : OKF w K mg base (L2N.CX prog w) 11 d_do_line ["model", "row", "is_once"] (sp_do_line K) := by
  refine okf_mk (k := 10) T 70 rfl sc_do_line rfl rfl (fun _ _ _ _ _ _ us hl => match us, hl with | [_, _, _], _ => rfl) sp3_len (fun f cdv A outer s H vs Q E hr h => ?_)
  have hu := hu_of hr
  have hu64 := hr.units
  refine ⟨_, (pss_cons (ps_set (i := 3) sc_do_line.nd rfl (Or.inl rfl) (pe_mk (ok_Reader_init T) T.k_Reader (hr.mono (by decide)) rfl T.g_Reader pass0 (pa_cons (pe_ok (ok_tokens_of T) (hr.mono (by decide)) rfl T.g_tokens_of (L2N.passes_call (L2N.takes_of rfl rfl rfl rfl) fun _ _ _ _ h => h) (pa_cons (pv 1) pa_nil)) (pa_cons (pe_callB call_len_seq rfl T.f_len boot_len (pa_cons (pv 1) pa_nil)) pa_nil))))
      (pss_one (ps_if (pt_cmpR (op_neD hu64) (pe_fld (pv 3) rfl) (pe_lst pa_nil) (nomark _)) (pss_cons (ps_asg (pe_ok (ok_take_word T) (hr.mono (by decide)) rfl T.g_take_word (L2N.passes_call (L2N.takes_of rfl rfl rfl rfl) fun _ _ _ _ h => h) (pa_cons (pv 3) pa_nil)) (pg_tup rfl (pgs_cons (pg_name (i := 4) sc_do_line.nd rfl (Or.inl rfl)) (pgs_cons (pg_name (i := 5) sc_do_line.nd rfl (Or.inl rfl)) pgs_nil))))
      (pss_cons (ps_expr (pe_ok (ok_need T) (hr.mono (by decide)) rfl T.g_need (L2N.passes_call (L2N.takes_of rfl rfl rfl rfl) fun _ _ _ _ h => h) (pa_cons (pe_or (pe_cmpR (op_inTab (T.kt_DEFINITIONS)) (pv 5) (pe_gref rfl (T.g_DEFINITIONS)) (by rfl)) (pe_one (pe_cmpR (op_inTab (T.kt_SETTINGS)) (pv 5) (pe_gref rfl (T.g_SETTINGS)) (by rfl)))) (pa_cons (pv 4) (pa_cons (pe_gint rfl (T.int_UNEXPECTED)) pa_nil)))))
      (pss_one (ps_if (pt_cmpR (op_inTab (T.kt_DEFINITIONS)) (pv 5) (pe_gref rfl (T.g_DEFINITIONS)) (by rfl)) (pss_one (ps_expr (pe_callSub (kd_DEFINITIONS T) (hr.mono (by decide)) (L2N.passes_call (L2N.takes_of rfl rfl rfl rfl) fun _ _ _ _ h => h) (pe_ix ix_kdict (pe_gref rfl (T.g_DEFINITIONS)) (pv 5) (fun _ _ => rfl)) (pa_cons (pv 3) (pa_cons (pv 0) (pa_cons (pv 4) pa_nil))))))
      (pss_one (ps_expr (pe_callSub (kd_SETTINGS T) (hr.mono (by decide)) (L2N.passes_call (L2N.takes_of rfl rfl rfl rfl) fun _ _ _ _ h => h) (pe_ix ix_kdict (pe_gref rfl (T.g_SETTINGS)) (pv 5) (fun _ _ => rfl)) (pa_cons (pv 3) (pa_cons (pv 0) (pa_cons (pv 4) (pa_cons (pv 2) pa_nil)))))))))))
      pss_nil))), ?_⟩
  obtain ⟨_, b, _, rfl, d, M, row, once, rfl, hR, rfl, hz, MO, wf, hQ⟩ := h
  obtain ⟨ra, rfl, hS⟩ := id hR
  refine ⟨_, rfl, _, rfl, row, hR, hz, ?_⟩
  unfold lineDo at hQ
  cases ht : Lrx9.tokens row with
  | error f =>
    rw [ht] at hQ
    exact hQ
  | ok ts =>
    rw [ht] at hQ
    simp only at hQ
    rintro v H1 s1 ⟨l, vs, rfl, e1, r1⟩
    refine ⟨_, rfl, _, _, rfl, .inl (s1.seq hS), fun x dx hx hdx ne => ⟨_, _, _, rfl, x, dx, l, row.length, rfl, rfl, congrArg (fun n : Nat => V.int (n : Int)) vN_len, upd_same, fun H2 e2 => ⟨rfl, ?_⟩⟩⟩
    rw [upd_upd] at e2
    have hx' : upd H1 dx (.own x) x = none := by rw [upd_ne (Ne.symm ne)]; exact hx
    have s2 : Same H1 H2 := e2 ▸ (Same.new hdx).to hx'
    have hx2 : H2 x = some (.ins (cReader K) dx (rdF l 0 row.length)) := e2 ▸ upd_same
    clear e2
    have tk := Qu.tokens_ok ht
    have hx0 : H x = none := s1.no _ hx
    have R2 : RdO K H2 ⟨x, dx, l, vs, ts, 0, row.length⟩ := ⟨hx2, s2 _ _ e1, paired_imp (fun _ _ z => z.same s2) r1, Nat.zero_le _, Nat.le_trans tk.2 hz⟩
    have G : RdG ⟨x, dx, l, vs, ts, 0, row.length⟩ := ⟨tk.1, tk.2⟩
    refine ⟨_, rfl, _, _, _, _, _, rfl, R2.ob, T.c_Reader, T.n_Reader_tokens, rfl, by show 0 ≤ sizeLine; decide, fun p hp => ?_⟩
    have s3 : Same H2 (upd H2 p (.lst [])) := Same.new hp
    have hp3 : upd H2 p (.lst []) p = some (.lst []) := upd_same
    generalize upd H2 p (.lst []) = H3 at *
    have R3 := R2.same s3
    have s03 : Same H H3 := (s1.trans s2).trans s3
    have MO3 := MO.same s03
    refine ⟨_, _, .lst (SqL.of R3.li) (toks_dp R3.tk), .lst (SqL.of hp3) .nil, toks_shaped ts fun t ht => (tk.1 t ht).lo, rfl, _, rfl, ?_⟩
    rw [toks_ne]
    cases ts with
    | nil =>
      have hQ' : ∀ H', Fm (CT d) H H' → MdO K H' d M → Q .non H' := hQ
      exact iteF (hQ' H3 s03.fm MO3)
    | cons first rest =>
      refine iteT ?_
      refine ⟨_, rfl, _, rfl, ⟨x, dx, l, vs, first :: rest, 0, row.length⟩, rfl, R3, ?_⟩
      show (match Lrx9.readName (first :: rest) row.length with | .error f => _ | .ok (t, m) => _)
      rw [Qu.statement_do] at hQ
      by_cases k0 : first.kind = 0
      · rw [if_neg (fun n => n k0)] at hQ
        simp only [Lrx9.readName]
        rw [if_neg (fun n => n k0)]
        simp only
        intro b H4 F4 R4 er4 hs4 _ _
        have F04 : Fm (SR ⟨x, dx, l, vs, first :: rest, 0, row.length⟩) H H4 := s03.fm.trans F4
        have MO4 := MO3.fm F4 R3.rds
        refine ⟨b, _, rfl, hs4, rfl, _, _, rfl, _, _, rfl, rfl, ?_⟩
        refine ⟨_, rfl, _, rfl, rfl, _, rfl, ?_⟩
        rcases kw_case first.text with ⟨k, hk, ek⟩ | ⟨hk, n1, n2⟩
        · rw [hk] at hQ
          simp only at hQ
          have fin := gives_end (x := Qu.stDo M (!once) rest row.length first.column k.val) F04 hx0 hQ
          rw [ek, defs_mem k]
          have MOk := MO4
          by_cases lt : k.val < 3
          · rw [decide_eq_true lt]
            refine iteT ⟨_, rfl, _, _, _, rfl, true, ⟨first.column, 3⟩, rfl, rfl, rfl, fun _ => ?_, fun z => Bool.noConfusion z⟩
            refine ⟨_, rfl, _, rfl, rfl, _, rfl, ?_⟩
            rw [defs_mem k, decide_eq_true lt]
            refine iteT ?_
            have cases3 : k.val = 0 ∨ k.val = 1 ∨ k.val = 2 := by omega
            rcases cases3 with e | e | e
            · rw [e] at fin ⊢
              refine ⟨_, rfl, _, _, _, rfl, rfl, tab_at (v := .glo "define_constant") T.kt_DEFINITIONS T.v_DEFINITIONS mem_k0, _, _, rfl, .inl ⟨rfl, rfl⟩, _, rfl, _, rfl, _, rfl, _, _, _, rfl, ⟨x, dx, l, vs, first :: rest, 1, row.length⟩, d, M, first.column, rfl, rfl, rfl, R4, MO4, wf, G.go 1, ?_⟩
              exact fin
            · rw [e] at fin ⊢
              refine ⟨_, rfl, _, _, _, rfl, rfl, tab_at (v := .glo "define_class") T.kt_DEFINITIONS T.v_DEFINITIONS mem_k1, _, _, rfl, .inr (.inl ⟨rfl, rfl⟩), _, rfl, _, rfl, _, rfl, _, _, _, rfl, ⟨x, dx, l, vs, first :: rest, 1, row.length⟩, d, M, first.column, rfl, rfl, rfl, R4, MO4, wf, G.go 1, ?_⟩
              exact fin
            · rw [e] at fin ⊢
              refine ⟨_, rfl, _, _, _, rfl, rfl, tab_at (v := .glo "define_station") T.kt_DEFINITIONS T.v_DEFINITIONS mem_k2, _, _, rfl, .inr (.inr ⟨rfl, rfl⟩), _, rfl, _, rfl, _, rfl, _, _, _, rfl, ⟨x, dx, l, vs, first :: rest, 1, row.length⟩, d, M, first.column, rfl, rfl, rfl, R4, MO4, wf, G.go 1, ?_⟩
              exact fin
          · rw [decide_eq_false lt]
            refine iteF ⟨_, rfl, _, rfl, rfl, ?_⟩
            rw [sets_mem k, decide_eq_true (show 3 ≤ k.val by omega)]
            refine ⟨_, rfl, _, _, _, rfl, true, ⟨first.column, 3⟩, rfl, rfl, rfl, fun _ => ?_, fun z => Bool.noConfusion z⟩
            refine ⟨_, rfl, _, rfl, rfl, _, rfl, ?_⟩
            rw [defs_mem k, decide_eq_false lt]
            refine iteF ?_
            have cases5 : k.val = 3 ∨ k.val = 4 ∨ k.val = 5 ∨ k.val = 6 ∨ k.val = 7 := by omega
            rcases cases5 with e | e | e | e | e
            · rw [e] at fin ⊢
              refine ⟨_, rfl, _, _, _, rfl, rfl, tab_at (v := .glo "set_service") T.kt_SETTINGS T.v_SETTINGS mem_k3, _, _, rfl, .inl ⟨rfl, rfl⟩, _, rfl, _, rfl, _, rfl, _, rfl, _, _, _, _, rfl, ⟨x, dx, l, vs, first :: rest, 1, row.length⟩, d, M, first.column, once, rfl, rfl, rfl, rfl, R4, MO4, wf, G.go 1, ?_⟩
              exact fin
            · rw [e] at fin ⊢
              refine ⟨_, rfl, _, _, _, rfl, rfl, tab_at (v := .glo "set_arrival") T.kt_SETTINGS T.v_SETTINGS mem_k4, _, _, rfl, .inr (.inl ⟨rfl, rfl⟩), _, rfl, _, rfl, _, rfl, _, rfl, _, _, _, _, rfl, ⟨x, dx, l, vs, first :: rest, 1, row.length⟩, d, M, first.column, once, rfl, rfl, rfl, rfl, R4, MO4, wf, G.go 1, ?_⟩
              exact fin
            · rw [e] at fin ⊢
              refine ⟨_, rfl, _, _, _, rfl, rfl, tab_at (v := .glo "set_route") T.kt_SETTINGS T.v_SETTINGS mem_k5, _, _, rfl, .inr (.inr (.inl ⟨rfl, rfl⟩)), _, rfl, _, rfl, _, rfl, _, rfl, _, _, _, _, rfl, ⟨x, dx, l, vs, first :: rest, 1, row.length⟩, d, M, first.column, once, rfl, rfl, rfl, rfl, R4, MO4, wf, G.go 1, ?_⟩
              exact fin
            · rw [e] at fin ⊢
              refine ⟨_, rfl, _, _, _, rfl, rfl, tab_at (v := .glo "set_leave") T.kt_SETTINGS T.v_SETTINGS mem_k6, _, _, rfl, .inr (.inr (.inr (.inl ⟨rfl, rfl⟩))), _, rfl, _, rfl, _, rfl, _, rfl, _, _, _, _, rfl, ⟨x, dx, l, vs, first :: rest, 1, row.length⟩, d, M, first.column, once, rfl, rfl, rfl, rfl, R4, MO4, wf, G.go 1, ?_⟩
              exact fin
            · rw [e] at fin ⊢
              refine ⟨_, rfl, _, _, _, rfl, rfl, tab_at (v := .glo "set_population") T.kt_SETTINGS T.v_SETTINGS mem_k7, _, _, rfl, .inr (.inr (.inr (.inr ⟨rfl, rfl⟩))), _, rfl, _, rfl, _, rfl, _, rfl, _, _, _, _, rfl, ⟨x, dx, l, vs, first :: rest, 1, row.length⟩, d, M, first.column, once, rfl, rfl, rfl, rfl, R4, MO4, wf, G.go 1, ?_⟩
              exact fin
        · rw [hk] at hQ
          rw [decide_eq_false n1]
          refine iteF ⟨_, rfl, _, rfl, rfl, ?_⟩
          rw [decide_eq_false n2]
          refine ⟨_, rfl, _, _, _, rfl, false, ⟨first.column, 3⟩, rfl, rfl, rfl, fun z => Bool.noConfusion z, fun _ => ?_⟩
          exact (show LineF K (fun _ => False) H E _ from hQ).go (F04.same1 hx0).fm fun _ z => z.elim
      · rw [if_pos k0] at hQ
        simp only [Lrx9.readName]
        rw [if_pos k0]
        exact (show LineF K (fun _ => False) H E _ from hQ).go s03.fm fun _ z => z.elim
def valueDo (M : Lrx9.Model) (row : List Nat) : Except Lrx9.Fault Fr := match Lrx9.tokens row with
  | .error f => .error f
  | .ok ts => Lrx9.lastValue M ts row.length fun _ => true
def sp_value_in (K : PySem.W.Frag) : Sp := sp2 fun a b H Q E => ∃ (d : MD) (M : Lrx9.Model) (row : List Nat), a = .ref d.a ∧ RowV K H b row ∧ row.length ≤ 80 ∧ MdO K H d M ∧ Qu.Wf M ∧
  match valueDo M row with
  | .error f => LineS K H E f
  | .ok q => GivesF K q H Q
theorem ok_value_in {w : World} {K : PySem.W.Frag} {mg : Str → Option Value} {base : Heap} (T : Txt w K mg) : OKF w K mg base (L2N.CX prog w) 10 d_value_in ["model", "row"] (sp_value_in K) := by
  refine okf_mk (k := 9) T 72 rfl sc_value_in rfl rfl (fun _ _ _ _ _ _ us hl => match us, hl with | [_, _], _ => rfl) sp2_len (fun f cdv A outer s H vs Q E hr h => ?_)
  refine ⟨_, (pss_cons (ps_set (i := 2) sc_value_in.nd rfl (Or.inl rfl) (pe_mk (ok_Reader_init T) T.k_Reader (hr.mono (by decide)) rfl T.g_Reader pass0 (pa_cons (pe_ok (ok_tokens_of T) (hr.mono (by decide)) rfl T.g_tokens_of (L2N.passes_call (L2N.takes_of rfl rfl rfl rfl) fun _ _ _ _ h => h) (pa_cons (pv 1) pa_nil)) (pa_cons (pe_callB call_len_seq rfl T.f_len boot_len (pa_cons (pv 1) pa_nil)) pa_nil))))
      (pss_cons (ps_asg (pe_ok (ok_take_last_value T) (hr.mono (by decide)) rfl T.g_take_last_value (L2N.passes_call (L2N.takes_of rfl rfl rfl rfl) fun _ _ _ _ h => h) (pa_cons (pv 2) (pa_cons (pv 0) pa_nil))) (pg_tup rfl (pgs_cons (pg_name (i := 3) sc_value_in.nd rfl (Or.inl rfl)) (pgs_cons (pg_name (i := 4) sc_value_in.nd rfl (Or.inl rfl)) pgs_nil))))
      (pss_cons (ps_expr (pe_ok (ok_need T) (hr.mono (by decide)) rfl T.g_need (L2N.passes_call (L2N.takes_of rfl rfl rfl rfl) fun _ _ _ _ h => h) (pa_cons (pe_ok (ok_is_near T) (hr.mono (by decide)) rfl T.g_is_near pass0 (pa_cons (pv 4) pa_nil)) (pa_cons (pv 3) (pa_cons (pe_gint rfl (T.int_OUT_OF_RANGE_statements)) pa_nil)))))
      (pss_one (ps_ret (pv 4)))))), ?_⟩
  obtain ⟨_, b, rfl, d, M, row, rfl, hR, hz, MO, wf, hQ⟩ := h
  obtain ⟨ra, rfl, hS⟩ := id hR
  refine ⟨_, rfl, _, rfl, row, hR, hz, ?_⟩
  unfold valueDo at hQ
  cases ht : Lrx9.tokens row with
  | error f =>
    rw [ht] at hQ
    exact hQ
  | ok ts =>
    rw [ht] at hQ
    simp only at hQ
    rintro v H1 s1 ⟨l, vs, rfl, e1, r1⟩
    refine ⟨_, rfl, _, _, rfl, .inl (s1.seq hS), fun x dx hx hdx ne => ⟨_, _, _, rfl, x, dx, l, row.length, rfl, rfl, congrArg (fun n : Nat => V.int (n : Int)) vN_len, upd_same, fun H2 e2 => ⟨rfl, ?_⟩⟩⟩
    rw [upd_upd] at e2
    have hx' : upd H1 dx (.own x) x = none := by rw [upd_ne (Ne.symm ne)]; exact hx
    have s2 : Same H1 H2 := e2 ▸ (Same.new hdx).to hx'
    have hx2 : H2 x = some (.ins (cReader K) dx (rdF l 0 row.length)) := e2 ▸ upd_same
    clear e2
    have tk := Qu.tokens_ok ht
    have hx0 : H x = none := s1.no _ hx
    have R2 : RdO K H2 ⟨x, dx, l, vs, ts, 0, row.length⟩ := ⟨hx2, s2 _ _ e1, paired_imp (fun _ _ z => z.same s2) r1, Nat.zero_le _, Nat.le_trans tk.2 hz⟩
    have G : RdG ⟨x, dx, l, vs, ts, 0, row.length⟩ := ⟨tk.1, tk.2⟩
    have s02 := s1.trans s2
    refine ⟨_, rfl, _, rfl, _, _, rfl, ⟨x, dx, l, vs, ts, 0, row.length⟩, d, M, rfl, rfl, R2, MO.same s02, wf, G, ?_⟩
    show (match lastAt M ts row.length with | .error f => _ | .ok q => _)
    rw [last_split] at hQ
    cases hl : lastAt M ts row.length with
    | error f =>
      rw [hl] at hQ
      exact (show LineF K (fun _ => False) H E f from hQ).go s02.fm fun b z => .inr (by rw [show b = x from z]; exact hx0)
    | ok q =>
      rw [hl] at hQ
      simp only [Bool.and_true] at hQ ⊢
      intro b xv H3 F3 hs fv rq bq
      have s3 : Same H H3 := Fm.same1 (x := x) ((s02.fm).trans F3) hx0
      refine ⟨b, _, rfl, hs, rfl, _, _, rfl, _, _, rfl, rfl, ?_⟩
      refine ⟨_, rfl, _, rfl, q, fv, _, rfl, _, _, _, rfl, Lrx9.isShort q, ⟨Lrx9.columnOf ts row.length, 7⟩, rfl, rfl, rfl, fun z => ?_, fun z => ?_⟩
      · rw [if_pos z] at hQ
        exact ⟨_, rfl, hQ xv H3 s3 fv⟩
      · rw [if_neg (by rw [z]; exact Bool.false_ne_true)] at hQ
        exact (show LineF K (fun _ => False) H E _ from hQ).go s3.fm fun _ z => z.elim
end Q
set_option Elab.async false
set_option linter.all false
set_option maxRecDepth 100000
set_option maxHeartbeats 4000000
namespace Q
open PySem PySem.Spec PyProof.Rows L2
/-! ### a raise while an exception is handled that has a context itself -/
section
variable {prog : Program} {w : World} {A : Around} {E : Value → Shared → Prop} {s : Shared}
theorem plain_unchain : plainId "proto.unchain" = true := by decide +kernel
/-- the walk along the contexts of x1 ends, nothing is cut -/
def Lets (prog : Program) (w : World) (A : Around) (x1 a : Addr) (t : Shared) : Prop := ∀ (G : Value → Shared → Prop) (R : Value → Shared → Prop), R .none t → wpAny (model prog w) A (holding [Value.ref a] (runValue (.builtin "proto.unchain" ⟨[.ref a, .ref x1, .ref x1, .bool false], []⟩))) R G t
theorem lets_one {x1 a : Addr} {o1 : Obj} {v1 : Array Value} (h1 : s.heap.get? x1 = some o1) (d1 : o1.data = .fields v1) (c1 : v1[2]? = some .none) : Lets prog w A x1 a s := fun _ _ q => HotX.unchained h1 d1 c1 q
theorem lets_two {x1 x2 a : Addr} {o1 o2 : Obj} {v1 v2 : Array Value} (h1 : s.heap.get? x1 = some o1) (d1 : o1.data = .fields v1) (c1 : v1[2]? = some (.ref x2)) (h2 : s.heap.get? x2 = some o2) (d2 : o2.data = .fields v2) (c2 : v2[2]? = some .none)
    (n1 : x2 ≠ a) : Lets prog w A x1 a s := by
  intro G R q
  have n2 : x2 ≠ x1 := by
    rintro rfl
    rw [h2] at h1
    cases h1
    rw [d2] at d1
    cases d1
    rw [c2] at c1
    cases c1
  have e1 : (Value.ref x2 == Value.none) = false := by rfl
  have e2 : (Value.ref x2 == Value.ref a) = false := by rw [beq_eq_false_iff_ne]; exact fun z => n1 (Value.ref.inj z)
  have e3 : (Value.ref x2 == Value.ref x1) = false := by rw [beq_eq_false_iff_ne]; exact fun z => n2 (Value.ref.inj z)
  refine wpAny_holding (wpAny_runValue (codeAny_builtin HotX.entry_unchain ?_))
  show wpAny _ _ (field (.ref x1) 2 >>= _) _ _ s
  refine wpAny_bind (wpAny_field h1 d1 c1 ?_)
  simp only [e1, e2, e3, Bool.false_eq_true, if_false]
  refine wpAny_bind (wpAny_pure ?_)
  refine wpAny_pure ⟨plainId_quiet plain_unchain _, codeAny_builtin HotX.entry_unchain ?_⟩
  show wpAny _ _ (field (.ref x2) 2 >>= _) _ _ s
  refine wpAny_bind (wpAny_field h2 d2 c2 ?_)
  rw [if_pos (show (Value.none == Value.none) = true from rfl)]
  first
  | exact wpAny_pure q
  | exact wpAny_bind (wpAny_pure (wpAny_pure q))
/-- the new exception with its context -/
def ctxt (t : Shared) (a x1 : Addr) : Shared := { t with heap := t.heap.update a (Obj.mapFields (·.setIfInBounds 2 (.ref x1))) }
theorem thrown_new {α : Type} {a x1 : Addr} {oe : Obj} {vs : Array Value} {Q : α → Shared → Prop} (hh : A.handled = some (.ref x1)) (ls : Lets prog w A x1 a s) (ne : x1 ≠ a) (ha : s.heap.get? a = some oe) (da : oe.data = .fields vs) (hi : 2 < vs.size) (out : E (.ref a) (ctxt s a x1)) :
    wpAny (model prog w) A (raiseNew (.ref a) : Sem α) Q E s := by
  have other : (Value.ref x1 != Value.ref a) = true := HotX.ref_bne ne
  unfold raiseNew
  refine wpAny_bind (wpAny_handled ?_)
  rw [hh]
  first
  | (show wpAny _ _ (if (Value.ref x1 != Value.ref a) = true then _ else _) _ _ _
     rw [if_pos other]
     first
     | exact wpAny_bind (ls _ _ (wpAny_bind (HotX.chained ha da hi (wpAny_throw out))))
     | exact wpAny_bind (wpAny_bind (ls _ _ (HotX.chained ha da hi (wpAny_throw out)))))
  | (refine wpAny_bind ?_
     show wpAny _ _ (if (Value.ref x1 != Value.ref a) = true then _ else _) _ _ _
     rw [if_pos other]
     exact wpAny_bind (ls _ _ (HotX.chained ha da hi (wpAny_throw out))))
theorem raise_lets {env : Env} {x : Sem Value} {Q : Flow → Shared → Prop} {x1 : Addr} (hh : A.handled = some (.ref x1))
    (made : wpAny (model prog w) A x (fun v t => ∃ a oe vs cls, v = .ref a ∧ t.heap.get? a = some oe ∧ oe.cls = cls ∧ oe.data = .fields vs ∧ vs[1]? = some .none ∧ 2 < vs.size ∧ x1 ≠ a ∧ Lets prog w A x1 a t ∧
      PySem.W.Looks (model prog w) t.heap (isSubtype cls (.type "BaseException")) true ∧ PySem.W.Looks (model prog w) t.heap (typeOf cls) (.type "type") ∧ E (.ref a) (ctxt t a x1)) E s) : wpAny (model prog w) A (raiseStmt env (some x) none) Q E s := by
  unfold raiseStmt
  dsimp only
  refine wpAny_bind (wpAny_mono made (fun v t got => ?_) fun _ _ z => z)
  obtain ⟨a, oe, vs, cls, rfl, ha, hc, hd, hv, hi, ne, ls, sub, ty, out⟩ := got
  have kind : PySem.W.Looks (model prog w) t.heap (typeOf (.ref a)) cls := fun A' Q' E' s' k q => wpAny_typeOf_ref (k _ _ ha) (by rw [hc]; exact q)
  have inst : PySem.W.Looks (model prog w) t.heap (isInstance (.ref a) (.type "BaseException")) true := kind.andThen sub
  have noType : ∀ {R : Bool → Shared → Prop}, R false t → wpAny (model prog w) A (isType (.ref a)) R E t := fun {R} q => by
    simp only [isType, loadHead]
    refine wpAny_bind (wpAny_loadPart ha ?_)
    rw [hd]
    exact wpAny_pure q
  refine wpAny_bind (wpAny_pure ?_)
  dsimp only
  refine wpAny_bind (wpAny_holding ?_)
  unfold excFromValue isExcClass
  refine wpAny_bind (wpAny_bind (noType ?_))
  simp only [Bool.false_eq_true, if_false]
  refine wpAny_pure ?_
  simp only [Bool.false_eq_true, if_false]
  refine wpAny_bind (inst.here ?_)
  simp only [if_true]
  refine wpAny_pure ?_
  refine wpAny_bind (noType ?_)
  simp only [Bool.false_eq_true, if_false]
  unfold raisedInstance
  refine wpAny_bind (wpAny_bind (kind.here (wpAny_bind (ty.here ?_))))
  rw [if_pos (beq_self_eq_true _)]
  refine wpAny_pure ?_
  unfold setFlight
  refine wpAny_bind (wpAny_bind (wpAny_field ha hd hv ?_))
  rw [if_neg (by decide)]
  refine wpAny_pure ?_
  exact thrown_new hh ls ne ha hd hi out
end
/-! ### kinds of flying exceptions -/
structure Kd (κ : Type) where
  z : κ → Value → Option Addr → Obj → Prop
  st : ∀ k c d, PXN.Steady1 (z k c d)
  cl : ∀ k c d o, z k c d o → o.cls = c ∧ o.dict = d
  /-- what is known to stand beside it -/
  p : κ → List (Addr × Obj)
def Kd.g {κ : Type} (D : Kd κ) (k : κ) (B : Heap) (H : Hp) : Prop := ∀ q ∈ D.p k, B.get? q.1 = some q.2 ∧ H q.1 = none ∧ ∃ vs, q.2.data = .fields vs
/-- any; without a context; with a context that has none itself -/
def kC : Kd Unit := ⟨fun _ => Zc, fun _ c d o v h => ⟨PXN.steady_cls o v h.1, PXN.steady_dict o v h.2⟩, fun _ _ _ _ h => h, fun _ => []⟩
def kN : Kd Unit := ⟨fun _ => L2N.Zn, fun _ c d => L2N.Zn.steady, fun _ _ _ _ h => ⟨h.1, h.2.1⟩, fun _ => []⟩
def CtxP (x : Addr) (o : Obj) : Prop := ∀ vs : Array Value, o.data = .fields vs → vs[2]? = some (.ref x)
theorem steady_ctxP {x : Addr} : PXN.Steady1 (CtxP x) := fun o v h vs e => by
  obtain ⟨c, d, dt, sl⟩ := o
  cases dt with
  | fields us =>
    have e2 : us.setIfInBounds 1 v = vs := Data.fields.inj e
    have h2 := h us rfl
    rw [← e2]
    simp [Array.getElem?_setIfInBounds, h2]
  | _ => cases e
def Plain2 (p : Addr × Obj) : Prop := ∃ v1 : Array Value, p.2.data = .fields v1 ∧ v1[2]? = some .none
def kT : Kd (Addr × Obj) := ⟨fun p c d o => o.cls = c ∧ o.dict = d ∧ CtxP p.1 o ∧ Plain2 p, fun p c d o v h => ⟨PXN.steady_cls o v h.1, PXN.steady_dict o v h.2.1, steady_ctxP o v h.2.2.1, h.2.2.2⟩, fun _ _ _ _ h => ⟨h.1, h.2.1⟩, fun p => [p]⟩
theorem g_none {κ : Type} {D : Kd κ} {k : κ} {B : Heap} {H : Hp} (h : D.p k = []) : D.g k B H := fun q hq => by
  rw [h] at hq
  cases hq
section
variable {κ : Type} (D : Kd κ)
def Air (X : Cx) (W : WX) (u : Value) (s' : Shared) : Prop :=
  ∃ (k : κ) (a : Addr) (B : Heap) (sI : Shared) (pins : List (Addr × Obj)) (σ : L2.St) (H : Hp) (c : Value) (d : Option Addr), u = .ref a ∧ Inv X pins σ H sI ∧ (∀ b o, sI.heap.get? b = some o → b ∉ frs X.stack → B.get? b = some o) ∧
    sI.heap.UpToSlots s'.heap ∧ Sky B X.stack a (D.z k c d) X.env.locals s'.heap ∧ H a = none ∧ s'.os = sI.os ∧ AllBare s'.gens ∧ D.g k B H ∧ W c d σ H
def Gets (X : Cx) (W : WX) : Prop := ∀ u s', Air D X W u s' → X.xe u s'
/-- behind a call -/
def CXK (P : Program) (w : World) : CXT := fun outer H s E u s' =>
  ∃ (k : κ) (a : Addr) (B : Heap) (H' : Hp) (c : Value) (d : Option Addr), u = .ref a ∧ HandSPX.FlyingZ B outer a (D.z k c d) s'.heap ∧ HOk P w H' B ∧ UB (frs outer) H H' s.heap B s'.heap ∧ H' a = none ∧ s'.os = s.os ∧ AllBare s'.gens ∧ D.g k B H' ∧ E c d H'
end
theorem gets_c {X : Cx} {W : WX} : Gets kC X W ↔ L2.Takes X W :=
  ⟨fun t u s' ⟨a, B, sI, pins, σ, H, c, d, e, I, nb, up, sk, na, os, ag, q⟩ => t u s' ⟨(), a, B, sI, pins, σ, H, c, d, e, I, nb, up, sk, na, os, ag, g_none rfl, q⟩,
   fun t u s' ⟨_, a, B, sI, pins, σ, H, c, d, e, I, nb, up, sk, na, os, ag, _, q⟩ => t u s' ⟨a, B, sI, pins, σ, H, c, d, e, I, nb, up, sk, na, os, ag, q⟩⟩
theorem gets_n {X : Cx} {W : WX} : Gets kN X W ↔ L2N.Takes X W :=
  ⟨fun t u s' ⟨a, B, sI, pins, σ, H, c, d, e, I, nb, up, sk, na, os, ag, q⟩ => t u s' ⟨(), a, B, sI, pins, σ, H, c, d, e, I, nb, up, sk, na, os, ag, g_none rfl, q⟩,
   fun t u s' ⟨_, a, B, sI, pins, σ, H, c, d, e, I, nb, up, sk, na, os, ag, _, q⟩ => t u s' ⟨a, B, sI, pins, σ, H, c, d, e, I, nb, up, sk, na, os, ag, q⟩⟩
section
variable {κ : Type} {D : Kd κ} {X : Cx} {pins : List (Addr × Obj)} {σ : L2.St} {H : Hp} {s s' : Shared} {W : WX} {E : XK}
theorem air_call (I : Inv X pins σ H s) (hW : ∀ c d H', E c d H' → W c d σ H') {u : Value} (out : CXK D X.prog X.w X.stack H s E u s') : Air D X W u s' := by
  obtain ⟨k, a, B, H', c, d, rfl, fly, ok, ub, na, os, ag, gr, q⟩ := out
  obtain ⟨G, in_, off⟩ := restrict s'.heap fun b => (B.get? b).isSome || decide (b ∈ frs X.stack)
  have stay : B.StaysIn s'.heap := fly.1
  have low : ∀ b o, B.get? b = some o → G.get? b = some o := fun b o e => (in_ b (by simp [e])).trans (stay b o e)
  have fr : ∀ b, b ∈ frs X.stack → G.get? b = s'.heap.get? b := fun b hb => in_ b (by simp [hb])
  have back : ∀ b o, G.get? b = some o → s'.heap.get? b = some o ∧ ((B.get? b).isSome = true ∨ b ∈ frs X.stack) := fun b o e => by
    by_cases y : ((B.get? b).isSome || decide (b ∈ frs X.stack)) = true
    · rw [in_ b y] at e
      exact ⟨e, by simpa [Bool.or_eq_true] using y⟩
    · rw [off b (by simpa using y)] at e
      cases e
  have slotted : ∀ b o, s.heap.get? b = some o → b ∈ frs X.stack → ∃ sl, G.get? b = some { o with slots := sl } := fun b o e hb => by
    obtain ⟨sl, z⟩ := ub.slot b o e hb
    exact ⟨sl, (fr b hb).trans z⟩
  have J : Inv X pins σ H' { s with heap := G, gens := s'.gens, drawn := s'.drawn, toks := s'.toks } := by
    refine I.call (ch := []) ⟨fun b o e n hb _ => low b o (ub.keep b o e n hb), fun b o e n hb _ => slotted b o e hb, fun b o e n _ => ub.free b o e n, fun b o e _ => ?_, ub.tups, ub.frzs, ub.tbls⟩ (ok.kept low) ag (fun _ z => nomatch z)
    by_cases hb : b ∈ frs X.stack
    · obtain ⟨sl, z⟩ := slotted b o e hb
      exact ⟨_, z⟩
    · obtain ⟨o', z⟩ := ub.there b o e hb
      exact ⟨o', low b o' z⟩
  refine ⟨k, a, B, _, pins, σ, H', c, d, rfl, J, fun b o e hb => ?_, Heap.UpToSlots.of_keeps fun b o e => (back b o e).1, .inr (.inl fly), na, os, ag, gr, hW _ _ _ q⟩
  obtain ⟨e', y⟩ := back b o e
  rcases y with y | y
  · obtain ⟨o', z⟩ := Option.isSome_iff_exists.mp y
    have t := stay b o' z
    rw [e'] at t
    cases t
    exact z
  · exact absurd y hb
theorem air_leave (hs : X.stack = X.env :: X.outer) (hf : X.env.frame = some X.env.locals) (hex : X.ex = []) {E₁ : Value → Shared → Prop} (hW : ∀ c d σ H, W c d σ H → E c d H) {u : Value} (fly : Air D X W u s') :
    wpAny (model X.prog X.w) X.A (leaving X.env u) (fun _ s'' => CXK D X.prog X.w X.outer X.H_0 X.s_0 E u s'') E₁ s' := by
  obtain ⟨k, a, B, sI, pins, σ, H, c, d, rfl, I, nb, up, sk, na, os, ag, gr, q⟩ := fly
  have frm : X.A.frames = some (X.env :: X.outer) := by rw [I.ok.frames, hs]
  have first : ∀ b o, X.s_0.heap.get? b = some o → b ∉ X.fs → b ∉ frs X.stack := fun b o e hb hm => by
    rcases List.mem_cons.mp (I.stkSub b hm) with z | z
    · have l1 := Heap.lt_size e
      rw [z] at l1
      exact absurd (Nat.lt_of_lt_of_le l1 I.ok.above) (Nat.lt_irrefl _)
    · exact hb z
  have none_ex : ∀ b, b ∉ X.ex := fun b hb => (by rw [hex] at hb; cases hb)
  have okB := I.inGround nb
  have done : ∀ h', HandSPX.FlyingZ B X.outer a (D.z k c d) h' → s'.heap.UpToSlots h' → CXK D X.prog X.w X.outer X.H_0 X.s_0 E (.ref a) { s' with heap := h' } := fun h' fl up' => by
    refine ⟨k, a, B, H, c, d, rfl, fl, okB, ⟨fun b o e n hb => nb b o (I.base.keep b o e n hb (none_ex b)) (first b o e hb), fun b o e hb => ?_, fun b o e n => I.base.free b o e n (none_ex b), fun b o e hb => ?_, I.base.tups, I.base.frzs, I.base.tbls⟩, na, os.trans I.os, ag, gr, hW _ _ _ _ q⟩
    · obtain ⟨_, o₀, e₀, hnf⟩ := I.ok.funs.mem hb
      rw [e] at e₀
      cases e₀
      obtain ⟨_, e1⟩ := I.base.slot b o e (I.ok.frf b hb) hb (none_ex b)
      obtain ⟨_, e2⟩ := up b _ e1 hnf
      obtain ⟨sl, e3⟩ := up' b _ e2 hnf
      exact ⟨sl, e3⟩
    · obtain ⟨o', e1⟩ := I.base.there b o e (none_ex b)
      exact ⟨o', nb b o' e1 (first b o e hb)⟩
  rw [hs] at sk
  rcases sk with ⟨hB, hn, hl, oe, vs, he, hz, hd, hv⟩ | fl | hd
  · exact PXN.leaving_firstZ (D.st k c d) frm hl hf he hB hn hd hv hz done
  · exact PXN.leaves_onZ (D.st k c d) frm hf fl done
  · exact HandSPX.leaves_heldZ hf hd done
theorem gets_of (hs : X.stack = X.env :: X.outer) (hf : X.env.frame = some X.env.locals) (hex : X.ex = []) {E₁ : Value → Shared → Prop}
    (hx : X.xe = fun e s' => wpAny (model X.prog X.w) X.A (leaving X.env e) (fun _ s'' => CXK D X.prog X.w X.outer X.H_0 X.s_0 E e s'') E₁ s') : Gets D X (fun c d _ H => E c d H) := fun u s' fly => by
  rw [hx]
  exact air_leave (W := fun c d _ H => E c d H) (E := E) hs hf hex (fun _ _ _ _ h => h) fly
theorem getAt (tk : Gets D X W) (σ : L2.St) : PassesAt (CXK D X.prog X.w) X σ (WE W σ) := fun _ _ _ e s' I out => tk e s' (air_call I (fun _ _ _ h => h) out)
end
end Q
set_option Elab.async false
set_option linter.all false
set_option maxRecDepth 100000
set_option maxHeartbeats 4000000
namespace Q
open PySem PySem.Spec PyProof.Rows L2
/-! ### an except suite with a name that raises -/
abbrev suiteE (X : Cx) (a : Addr) (pn : List (Addr × Obj)) (xe : Value → Shared → Prop) : Cx := { X with A := X.A.mark (some (.ref a)), calm := false, pn := pn, xe := xe }
section
variable {X : Cx} {pins : List (Addr × Obj)} {σ : L2.St} {H : Hp} {s : Shared}
theorem to_suiteE {a : Addr} {pn pn' : List (Addr × Obj)} {xe : Value → Shared → Prop} (I : Inv (X.suite a pn) pn' σ H s) : Inv (suiteE X a pn xe) pn' σ H s := Inv.unwish (X := suiteE X a pn xe) (E := fun _ _ => False) I
theorem of_suiteE {a : Addr} {pn pn' : List (Addr × Obj)} {xe : Value → Shared → Prop} (I : Inv (suiteE X a pn xe) pn' σ H s) (ok : X.Ok) (h : ∀ p ∈ X.pn ++ pins, p ∈ pn) : Inv X pins σ H s :=
  ⟨ok, I.os, I.bare, I.base, I.loc, I.cell, I.free, I.freeC, fun p hp => I.pin p (List.mem_append_left _ (h p hp)), I.hok, I.len⟩
end
/-- where the raised exception goes behind the suite -/
def behind (X : Cx) (a : Addr) (n : Str) (pos : Pos) (x : Value) (s : Shared) : Prop :=
  wpAny (model X.prog X.w) (X.A.mark (some (.ref a))) (noteFrame x X.env) (fun _ s1 =>
    wpAny (model X.prog X.w) (X.A.mark (some (.ref a))) (do bindName X.env n .none; unbindBehindTheSuite X.env n pos)
      (fun _ s2 => wpAny (model X.prog X.w) (X.A.mark (some (.ref a))) (passOn "try.except-as" x X.env : Sem Flow) (fun _ _ => False) (notedBy (model X.prog X.w) (X.A.mark (some (.ref a))) X.env (cameBackBy (model X.prog X.w) X.A X.env X.xe)) s2)
      (fun y s2 => wpAny (model X.prog X.w) (X.A.mark (some (.ref a))) (setFlight x none) (fun _ s3 => notedBy (model X.prog X.w) (X.A.mark (some (.ref a))) X.env (cameBackBy (model X.prog X.w) X.A X.env X.xe) y s3)
        (notedBy (model X.prog X.w) (X.A.mark (some (.ref a))) X.env (cameBackBy (model X.prog X.w) X.A X.env X.xe)) s2) s1)
    (notedBy (model X.prog X.w) (X.A.mark (some (.ref a))) X.env (cameBackBy (model X.prog X.w) X.A X.env X.xe)) s
section
variable {κ : Type} {D : Kd κ} {X : Cx} {W : WX} {pins : List (Addr × Obj)}
/-- records of the air: no frames -/
theorem off_frames {B h : Heap} {l : List Env} (ff : h.FunFrames B l) {b : Addr} {o : Obj} {vs : Array Value} (e : h.get? b = some o) (d : o.data = .fields vs) : b ∉ frs l := fun m => by
  obtain ⟨_, o', e', nf⟩ := ff.mem m
  rw [e] at e'
  cases e'
  exact nf _ d
theorem behind_ok (hs : X.stack = X.env :: X.outer) (hf : X.env.frame = some X.env.locals) (hex : X.ex = []) (ok : X.Ok) {i : Nat} {n : Str} {pos : Pos} {a : Addr} {pn : List (Addr × Obj)} {xe : Value → Shared → Prop} (hN : X.N.Nodup) (hi : X.N[i]? = some n) (hln : X.env.kindOf n = some .local)
    (hpa : ∀ hd : Option Value, PassesOwnAt (model X.prog X.w) (X.A.mark hd) X.A X.env X.xe) (tk : Gets D X W) (sub : ∀ p ∈ X.pn ++ pins, p ∈ pn) {u : Value} {s' : Shared} (fly : Air D (suiteE X a pn xe) (fun c d σ H => W c d (σ.set i none) H) u s') : behind X a n pos u s' := by
  have frm : (X.A.mark (some (.ref a))).frames = some (X.env :: X.outer) := by
    have := ok.frames
    rw [hs] at this
    exact this
  obtain ⟨k, e, B, sI, pins', σ', H', c, d, rfl, J', nb, up, sk, na, os, ag, gr, hw⟩ := fly
  have J : Inv X pins σ' H' sI := J'.pins_of (pins' := []) (fun p hp => (by cases hp)) |> fun z => of_suiteE z ok sub
  have sk' : Sky B (X.env :: X.outer) e (D.z k c d) X.env.locals s'.heap := by rw [← hs]; exact sk
  have fin : ∀ h1, HandSPX.HeldZ B (X.env :: X.outer) e (D.z k c d) X.env.locals h1 → s'.heap.UpToSlots h1 →
      wpAny (model X.prog X.w) (X.A.mark (some (.ref a))) (do bindName X.env n .none; unbindBehindTheSuite X.env n pos)
      (fun _ s2 => wpAny (model X.prog X.w) (X.A.mark (some (.ref a))) (passOn "try.except-as" (.ref e) X.env : Sem Flow) (fun _ _ => False) (notedBy (model X.prog X.w) (X.A.mark (some (.ref a))) X.env (cameBackBy (model X.prog X.w) X.A X.env X.xe)) s2)
      (fun y s2 => wpAny (model X.prog X.w) (X.A.mark (some (.ref a))) (setFlight (.ref e) none) (fun _ s3 => notedBy (model X.prog X.w) (X.A.mark (some (.ref a))) X.env (cameBackBy (model X.prog X.w) X.A X.env X.xe) y s3)
        (notedBy (model X.prog X.w) (X.A.mark (some (.ref a))) X.env (cameBackBy (model X.prog X.w) X.A X.env X.xe)) s2) { s' with heap := h1 } := fun h1 held up1 => by
    have J1 : Inv X pins σ' H' { s' with heap := h1 } := J.landed nb held.1 (up.trans up1) os ag
    obtain ⟨k1, k2, k3, oe, vs, Tb, oT, ts, he, hz, hd, hv, noT, neT, hT, hdT, ht⟩ := id held
    have nT : H' Tb = none := (J.inGround nb).gone noT
    have fe := off_frames k3 he hd
    have fT := off_frames k3 hT hdT
    have inL : X.env.locals ∈ frs (X.env :: X.outer) := List.mem_filterMap.mpr ⟨X.env, List.mem_cons_self, hf⟩
    have inF : ∀ b, b ∈ X.fs → b ∈ frs (X.env :: X.outer) := fun b hm => by
      obtain ⟨v, hv, q⟩ := List.mem_filterMap.mp hm
      exact List.mem_filterMap.mpr ⟨v, List.mem_cons_of_mem _ hv, q⟩
    have stand : ∀ (b : Addr) (o : Obj) (fv : Array Value), h1.get? b = some o → o.data = .fields fv → H' b = none → h1.get? b = some o ∧ H' b = none ∧ b ≠ X.env.locals ∧ b ∉ X.fs ∧ ∀ v, o.data ≠ .cell v := fun b o fv eb db nb' =>
      ⟨eb, nb', fun z => off_frames k3 eb db (by rw [z]; exact inL), fun z => off_frames k3 eb db (inF _ z), fun v z => by rw [db] at z; cases z⟩
    have J2 : Inv X ((e, oe) :: (Tb, oT) :: (D.p k ++ pins)) σ' H' { s' with heap := h1 } := J1.pins_of fun p hp => by
      rcases List.mem_cons.mp hp with z | hp
      · rw [z]; exact stand e oe vs he hd na
      · rcases List.mem_cons.mp hp with z | hp
        · rw [z]; exact stand Tb oT ts hT hdT nT
        · rcases List.mem_append.mp hp with hp | hp
          · obtain ⟨g1, g2, fv, g3⟩ := gr p hp
            exact stand p.1 p.2 fv (k1 _ _ g1) g3 g2
          · exact J1.pin p (List.mem_append_right _ hp)
    refine gone_ok J2 hN hi hln fun s6 J6' => ?_
    have pe := J6'.pin (e, oe) (List.mem_append_right _ List.mem_cons_self)
    have pT := J6'.pin (Tb, oT) (List.mem_append_right _ (List.mem_cons_of_mem _ List.mem_cons_self))
    have J6 : Inv X pins (σ'.set i none) H' s6 := J6'.pins_of fun p hp => J6'.pin p (List.mem_append_right _ (List.mem_cons_of_mem _ (List.mem_cons_of_mem _ (List.mem_append_right _ hp))))
    have apart : ∀ b o, sI.heap.get? b = some o → b ≠ e ∧ b ≠ Tb := fun b o eb => by
      by_cases hb : b ∈ frs X.stack
      · rw [hs] at hb
        exact ⟨fun z => fe (by rw [← z]; exact hb), fun z => fT (by rw [← z]; exact hb)⟩
      · have q := nb b o eb hb
        refine ⟨fun z => ?_, fun z => ?_⟩
        · rw [z, k2] at q; cases q
        · rw [z, noT] at q; cases q
    have apart0 : ∀ b o, X.s_0.heap.get? b = some o → b ≠ e ∧ b ≠ Tb := fun b o eb => by
      obtain ⟨o', q⟩ := J.base.there b o eb (by rw [hex]; simp)
      exact apart b o' q
    have apartP : ∀ p ∈ X.pn ++ pins, p.1 ≠ e ∧ p.1 ≠ Tb := fun p hp => apart p.1 p.2 (J.pin p hp).1
    obtain ⟨G, in_, off⟩ := restrict s6.heap fun b => !(decide (b = e) || decide (b = Tb))
    have low : ∀ b o, G.get? b = some o → s6.heap.get? b = some o ∧ b ≠ e ∧ b ≠ Tb := fun b o eb => by
      by_cases y : (!(decide (b = e) || decide (b = Tb))) = true
      · rw [in_ b y] at eb
        simp only [Bool.not_eq_true', Bool.or_eq_false_iff, decide_eq_false_iff_not] at y
        exact ⟨eb, y.1, y.2⟩
      · rw [off b (by simpa using y)] at eb
        cases eb
    have high : ∀ b o, b ≠ e → b ≠ Tb → s6.heap.get? b = some o → G.get? b = some o := fun b o n1 n2 eb => (in_ b (by simp [n1, n2])).trans eb
    have I6 : Inv X pins (σ'.set i none) H' { s6 with heap := G } := Inv.less J6 (fun b o eb => (low b o eb).1) high ⟨oe, vs, pe.1, hd⟩ ⟨oT, ts, pT.1, hdT⟩ na nT apart0 apartP
    have gone : ∀ b, (b = e ∨ b = Tb) → (PySem.W.hideAll G (frs X.stack)).get? b = none := fun b hb => by
      cases q : (PySem.W.hideAll G (frs X.stack)).get? b with
      | none => rfl
      | some o =>
        obtain ⟨_, n1, n2⟩ := low b o (PySem.W.of_hideAll _ q)
        exact absurd hb (fun z => z.elim n1 n2)
    have held6 : HandSPX.HeldZ (PySem.W.hideAll G (frs X.stack)) (X.env :: X.outer) e (D.z k c d) X.env.locals s6.heap := by
      refine ⟨fun b o eb => (low b o (PySem.W.of_hideAll _ eb)).1, gone e (.inl rfl), ?_, oe, vs, Tb, oT, ts, pe.1, hz, hd, hv, gone Tb (.inr rfl), neT, pT.1, hdT, ht⟩
      have ff := funFrames_none (B := PySem.W.hideAll G (frs X.stack)) J6.stack fun b hb => PySem.W.hideAll_none _ hb
      rw [← hs]
      exact ff
    have gr6 : D.g k (PySem.W.hideAll G (frs X.stack)) H' := fun q hq => by
      obtain ⟨g1, g2, fv, g3⟩ := gr q hq
      have pq := J6'.pin q (List.mem_append_right _ (List.mem_cons_of_mem _ (List.mem_cons_of_mem _ (List.mem_append_left _ hq))))
      have nq : q.1 ≠ e ∧ q.1 ≠ Tb := ⟨fun z => (by rw [z, k2] at g1; cases g1), fun z => (by rw [z, noT] at g1; cases g1)⟩
      have fq : q.1 ∉ frs X.stack := by
        rw [hs]
        exact off_frames k3 (k1 _ _ g1) g3
      exact ⟨PySem.W.hideAll_get _ (high _ _ nq.1 nq.2 pq.1) fq, g2, fv, g3⟩
    show wpAny (model X.prog X.w) (X.A.mark (some (.ref a))) (PySem.passOn "try.except-as" (.ref e) X.env) _ _ s6
    unfold PySem.passOn
    refine wpAny_bind (wpAny_field pe.1 hd hv ?_)
    rw [if_neg (show ¬ ((Value.ref Tb == Value.none) = true) from by simp)]
    have out : wpAny (model X.prog X.w) (X.A.mark (some (.ref a))) (setFlight (.ref e) X.env.frame) (fun _ s7 => wpAny (model X.prog X.w) (X.A.mark (some (.ref a))) (throw (.ref e) : Sem Flow) (fun _ _ => False) (notedBy (model X.prog X.w) (X.A.mark (some (.ref a))) X.env (cameBackBy (model X.prog X.w) X.A X.env X.xe)) s7)
        (notedBy (model X.prog X.w) (X.A.mark (some (.ref a))) X.env (cameBackBy (model X.prog X.w) X.A X.env X.xe)) s6 := by
      rw [hf]
      refine HandSPX.setFlight_anyZ held6.1 held6.2.2.1 held6.2.2.2 fun h7 q1 q2 q3 up7 => wpAny_throw (hpa (some (.ref a)) _ _ (tk _ _ ?_))
      refine ⟨k, e, PySem.W.hideAll G (frs X.stack), { s6 with heap := G }, pins, σ'.set i none, H', c, d, rfl, I6, fun b o eb hb => PySem.W.hideAll_get _ eb hb, ?_, .inr (.inr ?_), na, rfl, J6.bare, gr6, hw⟩
      · exact Heap.UpToSlots.trans (Heap.UpToSlots.of_keeps fun b o eb => (low b o eb).1) up7
      · have z : HandSPX.HeldZ (PySem.W.hideAll G (frs X.stack)) (X.env :: X.outer) e (D.z k c d) X.env.locals h7 := ⟨q1, held6.2.1, q2, q3⟩
        rw [← hs] at z
        exact z
    first
      | exact wpAny_bind (wpAny_pure (wpAny_bind out))
      | exact wpAny_bind out
  unfold behind
  rcases sk' with ⟨hB, hn, hl, oe, vs, he, hz, hd, hv⟩ | fl | hh
  · exact PXN.look_newZ (D.st k c d) frm hl hf he hB hn hd hv hz fin
  · exact PXN.looks_onZ (D.st k c d) frm hf fl fin
  · exact HandSPX.againZ hf hh.2.2.2 (fin s'.heap hh (Heap.UpToSlots.refl _))
end
end Q
set_option Elab.async false
set_option linter.all false
set_option maxRecDepth 100000
set_option maxHeartbeats 4000000
namespace Q
open PySem PySem.Spec PyProof.Rows L2
/-- the wish for the body: all that comes is caught -/
def wYes (K : PySem.W.Frag) (c : Value) (i : Nat) (ts : Addr → Value → Option Addr → TS) (F : Ends) : WX := fun cls d σ H => PySem.W.exmOne K cls c = some true ∧
  ∀ a, H a = none → ts a cls d { nx := fun σ' H' => F.nx (σ'.set i none) H', rt := F.rt, bk := fun σ' H' => F.bk (σ'.set i none) H', ct := fun σ' H' => F.ct (σ'.set i none) H' } (σ.set i (some (.ref a))) H
section
variable {κ κ' : Type} {D : Kd κ} {D' : Kd κ'} {X : Cx} {x n : Str} {c : Value} {i : Nat} {body suite : List Stmt} {b₀ : Stmt} {np pos pos' : Pos} {tb : WX → TS} {ts : Addr → Value → Option Addr → TS} {Wout : WX}
theorem ps_try_asK (hs : X.stack = X.env :: X.outer) (hf : X.env.frame = some X.env.locals) (hex : X.ex = []) (hN : X.N.Nodup) (hi : X.N[i]? = some n) (hln : X.env.kindOf n = some .local) (hc : Names X x c)
    (hpa : ∀ hd : Option Value, PassesOwnAt (model X.prog X.w) (X.A.mark hd) X.A X.env X.xe) (tk : Gets D' X Wout)
    (hb : ∀ (W : WX) (pn : List (Addr × Obj)) (xe : Value → Shared → Prop), Gets D (X.tr pn xe) W → PassesOwn (model X.prog X.w) X.A X.env xe → PSs (X.tr pn xe) body (tb W))
    (hsu : ∀ (k : κ) (a : Addr) (oe : Obj) (cls : Value) (d : Option Addr) (pn : List (Addr × Obj)) (xe : Value → Shared → Prop), D.z k cls d oe → (∃ vs, oe.data = .fields vs) → (∀ q ∈ D.p k, q ∈ pn) →
      Gets D' (suiteE X a ((a, oe) :: pn) xe) (fun cls d σ H => Wout cls d (σ.set i none) H) → PSs (suiteE X a ((a, oe) :: pn) xe) (b₀ :: suite) (ts a cls d)) :
    PS X (.Try body [.ExceptHandler (some (.Name x np)) (some n) (b₀ :: suite) pos'] [] [] pos) (fun F σ H => tb (wYes X.K c i ts F) F σ H) := by
  refine ⟨fun pins s σ H F I h => ?_⟩
  have ok := I.ok
  have frm : X.A.frames = some (X.env :: X.outer) := by rw [ok.frames, hs]
  have lcl : Loc X.env.scope n := .inl hln
  refine wpAny_Try_except ?_
  have caught : ∀ u s', Air D (X.tr (X.pn ++ pins) (fun e s₁ => wpAny (model X.prog X.w) X.A (noteFrame e X.env) (fun _ s₂ => wpAny (model X.prog X.w) X.A (setFlight e none) (fun _ s₃ =>
      wpAny (model X.prog X.w) X.A (handleBy e X.env [.ExceptHandler (some (.Name x np)) (some n) (b₀ :: suite) pos']) (SP X pins F) X.xe s₃) X.xe s₂) X.xe s₁)) (wYes X.K c i ts F) u s' →
      wpAny (model X.prog X.w) X.A (noteFrame u X.env) (fun _ s₂ => wpAny (model X.prog X.w) X.A (setFlight u none) (fun _ s₃ =>
      wpAny (model X.prog X.w) X.A (handleBy u X.env [.ExceptHandler (some (.Name x np)) (some n) (b₀ :: suite) pos']) (SP X pins F) X.xe s₃) X.xe s₂) X.xe s' := by
    rintro u s' ⟨k, a, B, sI, pins', σ', H', cls, d, rfl, J', nb, up, sk, na, os, ag, gr, yes, then_⟩
    have J : Inv X pins σ' H' sI := J'.ofTry ok
    have sk' : Sky B (X.env :: X.outer) a (D.z k cls d) X.env.locals s'.heap := by rw [← hs]; exact sk
    refine L2N.Sky.land (D.st k cls d) frm hf sk' fun h3 fl3 up3 => ?_
    have J3 : Inv X pins σ' H' { s' with heap := h3 } := J.landed nb fl3.1 (up.trans up3) os ag
    obtain ⟨oe3, vs3, he3, hz3, hd3⟩ := fl3.there
    have fa := off_frames fl3.2.2.1 he3 hd3
    have nL : a ≠ X.env.locals := fun z => fa (List.mem_filterMap.mpr ⟨X.env, List.mem_cons_self, by rw [hf, z]⟩)
    have nF : a ∉ X.fs := fun hm => by
      obtain ⟨v, hv, q⟩ := List.mem_filterMap.mp hm
      exact fa (List.mem_filterMap.mpr ⟨v, List.mem_cons_of_mem _ hv, q⟩)
    have S3 := J3.suite he3 hd3 na nL nF
    refine wpAny_handleBy_cons (codeAny_handlers_test ?_) (by intro q; cases q)
    have kind : PySem.W.Looks (model X.prog X.w) h3 (typeOf (.ref a)) cls := fun A Q E s k' q => wpAny_typeOf_ref (k' _ _ he3) (by rw [(D.cl _ _ _ _ hz3).1]; exact q)
    have isIt := PySem.W.exm_one (M := model X.prog X.w) (J3.kIn) kind yes
    have named : ∀ {Q : Value → Shared → Prop} {E : Value → Shared → Prop}, Q c { s' with heap := h3 } → wpAny (model X.prog X.w) (X.A.mark (some (.ref a))) (eval (.Name x np) X.env) Q E { s' with heap := h3 } := fun {Q E} q => by
      obtain ⟨hg, hdbg, hm | ⟨hm, hv, hnn⟩⟩ := hc
      · exact ld_glob (X := X.suite a ((a, oe3) :: (X.pn ++ pins))) S3 hg hm q hdbg
      · exact ld_blt (X := X.suite a ((a, oe3) :: (X.pn ++ pins))) S3 hg hm hv q hnn hdbg
    refine named (isIt.here ?_)
    refine codeAny_handlers_suite_as ?_
    refine HandSPX.lands_againZ fl3 fun h4 fl4 up4 => ?_
    have J4 : Inv X pins σ' H' { s' with heap := h4 } := J.landed nb fl4.1 ((up.trans up3).trans up4) os ag
    obtain ⟨oe4, vs4, he4, hz4, hd4⟩ := fl4.there
    -- what stands beside it is pinned too
    have J4' : Inv X (pins ++ D.p k) σ' H' { s' with heap := h4 } := J4.pins_of fun p hp => by
      rcases List.mem_append.mp hp with hp | hp
      · exact J4.pin p (List.mem_append_right _ hp)
      · obtain ⟨g1, g2, fv, g3⟩ := gr p hp
        have e4 := fl4.1 _ _ g1
        have fp := off_frames fl4.2.2.1 e4 g3
        refine ⟨e4, g2, fun z => fp (List.mem_filterMap.mpr ⟨X.env, List.mem_cons_self, by rw [hf, z]⟩), fun hm => ?_, fun v z => by rw [g3] at z; cases z⟩
        obtain ⟨v, hv, q⟩ := List.mem_filterMap.mp hm
        exact fp (List.mem_filterMap.mpr ⟨v, List.mem_cons_of_mem _ hv, q⟩)
    have S4 := J4'.suite he4 hd4 na nL nF
    have sub : ∀ p ∈ X.pn ++ pins, p ∈ (a, oe4) :: (X.pn ++ (pins ++ D.p k)) := fun p hp => List.mem_cons_of_mem _ (by
      rcases List.mem_append.mp hp with z | z
      · exact List.mem_append_left _ z
      · exact List.mem_append_right _ (List.mem_append_left _ z))
    refine store_ok (X := X.suite a ((a, oe4) :: (X.pn ++ (pins ++ D.p k)))) (v := .ref a) S4 hN hi lcl rfl (fun s5 S5 => ?_) (.inr hln)
    have tkS : Gets D' (suiteE X a ((a, oe4) :: (X.pn ++ (pins ++ D.p k))) (behind X a n pos')) (fun cls d σ H => Wout cls d (σ.set i none) H) := fun u2 s2 fly =>
      behind_ok (pins := pins) hs hf hex ok hN hi hln hpa tk sub fly
    refine wpAny_mono ((hsu k a oe4 cls d (X.pn ++ (pins ++ D.p k)) (behind X a n pos') hz4 ⟨_, hd4⟩ (fun q hq => List.mem_append_right _ (List.mem_append_right _ hq)) tkS).run [] s5 _ H' _ (to_suiteE S5) (then_ a na)) (fun f s6 hsp => ?_) (fun e6 s6 z => z)
    have gone : ∀ {σ6 : L2.St} {H6 : Hp} {Q : Shared → Prop}, Inv (suiteE X a ((a, oe4) :: (X.pn ++ (pins ++ D.p k))) (behind X a n pos')) [] σ6 H6 s6 → (∀ s7, Inv X pins (σ6.set i none) H6 s7 → Q s7) →
        wpAny (model X.prog X.w) X.A (do bindName X.env n .none; unbindBehindTheSuite X.env n pos') (fun _ s7 => Q s7) X.xe s6 := fun {σ6 H6 Q} S6 hq => gone_ok (of_suiteE S6 ok sub) hN hi hln hq
    cases f with
    | next =>
      obtain ⟨σ6, H6, S6, q6⟩ := hsp
      exact gone S6 fun s7 J7 => ⟨_, _, J7, q6⟩
    | brk =>
      obtain ⟨σ6, H6, S6, q6⟩ := hsp
      exact gone S6 fun s7 J7 => ⟨_, _, J7, q6⟩
    | cont =>
      obtain ⟨σ6, H6, S6, q6⟩ := hsp
      exact gone S6 fun s7 J7 => ⟨_, _, J7, q6⟩
    | ret u =>
      obtain ⟨v6, σ6, H6, S6, r6, q6⟩ := hsp
      exact gone S6 fun s7 J7 => ⟨_, _, _, J7, r6, q6⟩
  refine wpAny_mono ((hb (wYes X.K c i ts F) (X.pn ++ pins) _ (fun u s' fly => caught u s' fly) PassesOwn.looking).run [] s σ H F (I.toTry _) h) (fun f s1 hsp => ?_) (fun e s1 he => he)
  cases f with
  | next =>
    obtain ⟨σ', H', J', q⟩ := hsp
    exact wpAny_execs_nil ⟨σ', H', J'.ofTry ok, q⟩
  | brk =>
    obtain ⟨σ', H', J', q⟩ := hsp
    exact ⟨σ', H', J'.ofTry ok, q⟩
  | cont =>
    obtain ⟨σ', H', J', q⟩ := hsp
    exact ⟨σ', H', J'.ofTry ok, q⟩
  | ret u =>
    obtain ⟨v, σ', H', J', r, q⟩ := hsp
    exact ⟨v, σ', H', J'.ofTry ok, r, q⟩
end
end Q
set_option Elab.async false
set_option linter.all false
set_option maxRecDepth 100000
set_option maxHeartbeats 4000000
namespace Q
open PySem PySem.Spec PyProof.Rows L2
/-! ### raises in such suites -/
def HotN (X : Cx) (p : Addr × Obj) : Prop := X.A.handled = some (.ref p.1) ∧ p ∈ X.pn ∧ Plain2 p
def HotW (X : Cx) : Prop := (∃ p, HotN X p) ∨ ∃ (p q : Addr × Obj), X.A.handled = some (.ref p.1) ∧ p ∈ X.pn ∧ (∃ vs, p.2.data = .fields vs ∧ vs[2]? = some (.ref q.1)) ∧ q ∈ X.pn ∧ Plain2 q
section
variable {X : Cx} {pins : List (Addr × Obj)} {σ : L2.St} {H : Hp} {sI s s' : Shared} {W : WX}
theorem air_new {κ : Type} {D : Kd κ} {k : κ} {a : Addr} {oe : Obj} {vs : Array Value} {cls : Value} {d : Option Addr} (I : Inv X pins σ H sI) (keep : ∀ b o, sI.heap.get? b = some o → s'.heap.get? b = some o) (new : sI.heap.get? a = none) (he : s'.heap.get? a = some oe)
    (hz : D.z k cls d oe) (hd : oe.data = .fields vs) (hv : vs[1]? = some .none) (na : H a = none) (os : s'.os = sI.os) (ag : AllBare s'.gens) (gr : D.g k (PySem.W.hideAll sI.heap (frs X.stack)) H) (w : W cls d σ H) : Air D X W (.ref a) s' := by
  have low : ∀ b o, (PySem.W.hideAll sI.heap (frs X.stack)).get? b = some o → s'.heap.get? b = some o := fun b o e => keep b o (PySem.W.of_hideAll _ e)
  have out : (PySem.W.hideAll sI.heap (frs X.stack)).get? a = none := by
    cases q : (PySem.W.hideAll sI.heap (frs X.stack)).get? a with
    | none => rfl
    | some o =>
      have y := PySem.W.of_hideAll _ q
      rw [new] at y
      cases y
  have ff := Heap.FunFrames.of_keeps (fun b o e _ => ⟨o, keep b o e, rfl⟩) (funFrames_none (B := PySem.W.hideAll sI.heap (frs X.stack)) I.stack fun b hb => PySem.W.hideAll_none _ hb)
  exact ⟨k, a, _, sI, pins, σ, H, cls, d, rfl, I, fun b o e hb => PySem.W.hideAll_get _ e hb, Heap.UpToSlots.of_keeps keep, .inl ⟨low, out, ff, oe, vs, he, hz, hd, hv⟩, na, os, ag, gr, w⟩
/-- the exception made, raised where p is handled -/
theorem ps_raiseK {κ : Type} {D : Kd κ} {e : Expr} {t : L2.St → Hp → XK → Prop} {pos : Pos} {p : Addr × Obj} (hh : X.A.handled = some (.ref p.1)) (hp : p ∈ X.pn) (tk : Gets D X W) (he : L2N.PMk X e t)
    (lets : ∀ (J : Shared) (a : Addr), (∀ q ∈ X.pn, J.heap.get? q.1 = some q.2 ∧ q.1 ≠ a) → Lets X.prog X.w X.A p.1 a J)
    (zs : ∀ (oe : Obj) (vs : Array Value) (cls : Value) (d : Option Addr), L2N.Zn cls d oe → oe.data = .fields vs → ∃ k, D.z k cls d (oe.mapFields (·.setIfInBounds 2 (.ref p.1))) ∧ ∀ q ∈ D.p k, q ∈ X.pn ∧ ∃ fv, q.2.data = .fields fv) :
    PS X (.Raise (some e) none pos) (fun _ σ H => t σ H fun cls d H' => W cls d σ H') := by
  refine ⟨fun pins s σ H F I h => ?_⟩
  show wpAny _ _ (do standAt pos; raiseStmt X.env (some (do let v ← eval e X.env; standAt pos; pure v)) none) _ _ _
  refine wpAny_bind (wpAny_standAt (raise_lets (x1 := p.1) hh (wpAny_bind (wpAny_mono (he pins s σ H _ I h) (fun u s1 hu => wpAny_bind (wpAny_standAt (wpAny_pure ?_))) fun _ _ z => z))))
  obtain ⟨a, oe, vs, sI, H', cls, d, rfl, J, keep, new, ha, hz, hd, hv, na, os, ag, r, q⟩ := hu
  obtain ⟨r1, r2⟩ := r (model X.prog X.w) s1.heap (J.kIn.keeps keep)
  have pinned : ∀ q ∈ X.pn, s1.heap.get? q.1 = some q.2 ∧ q.1 ≠ a := fun q hq => by
    have P := (J.pin q (List.mem_append_left _ hq)).1
    refine ⟨keep _ _ P, fun z => ?_⟩
    rw [z, new] at P
    cases P
  have sz : 2 < vs.size := (Array.getElem?_eq_some_iff.mp (hz.2.2 vs hd)).1
  have hv' : (vs.setIfInBounds 2 (Value.ref p.1))[1]? = some Value.none := by
    have e3 : (vs.setIfInBounds 2 (Value.ref p.1))[1]? = vs[1]? := by
      first
      | exact Array.getElem?_setIfInBounds_ne (by decide)
      | simp [Array.getElem?_setIfInBounds]
    rw [e3]
    exact hv
  obtain ⟨k, zk, gk⟩ := zs oe vs cls d hz hd
  refine ⟨a, oe, vs, cls, rfl, ha, hz.1, hd, hv, sz, (pinned p hp).2, lets s1 a pinned, r1, r2, tk _ _ (air_new (sI := sI) (k := k) J (fun b u z => ?_) new (Heap.get?_update_self _ ha (Obj.isFreed_of_fields (Obj.data_mapFields hd _))) zk (Obj.data_mapFields hd _) hv' na os ag (fun y hy => ?_) q)⟩
  · have nab : a ≠ b := fun y => by
      rw [← y, new] at z
      cases z
    show (s1.heap.update a (Obj.mapFields (·.setIfInBounds 2 (.ref p.1)))).get? b = some u
    rw [Heap.get?_update_other _ _ nab]
    exact keep b u z
  · obtain ⟨g1, fv, g2⟩ := gk y hy
    obtain ⟨P1, P2, P3, P4, -⟩ := J.pin y (List.mem_append_left _ g1)
    exact ⟨PySem.W.hideAll_get _ P1 (fun hm => (List.mem_cons.mp (J.stkSub y.1 hm)).elim P3 P4), P2, fv, g2⟩
theorem ps_raiseC {e : Expr} {t : L2.St → Hp → XK → Prop} {pos : Pos} (hot : HotW X) (tk : Gets kC X W) (he : L2N.PMk X e t) : PS X (.Raise (some e) none pos) (fun _ σ H => t σ H fun cls d H' => W cls d σ H') := by
  have zs : ∀ (p : Addr × Obj) (oe : Obj) (vs : Array Value) (cls : Value) (d : Option Addr), L2N.Zn cls d oe → oe.data = .fields vs → ∃ k, kC.z k cls d (oe.mapFields (·.setIfInBounds 2 (.ref p.1))) ∧ ∀ q ∈ kC.p k, q ∈ X.pn ∧ ∃ fv, q.2.data = .fields fv := fun p oe vs cls d hz hd =>
    ⟨(), ⟨(Obj.cls_mapFields ..).trans hz.1, (HandSPX.dict_mapFields ..).trans hz.2.1⟩, fun q hq => by cases hq⟩
  rcases hot with ⟨p, hh, hp, v1, d1, c1⟩ | ⟨p, q, hh, hp, ⟨v1, d1, c1⟩, hq, v2, d2, c2⟩
  · exact ps_raiseK hh hp tk he (fun J a st => lets_one (st p hp).1 d1 c1) (zs p)
  · exact ps_raiseK hh hp tk he (fun J a st => lets_two (st p hp).1 d1 c1 (st q hq).1 d2 c2 (st q hq).2) (zs p)
theorem ps_raiseT {e : Expr} {t : L2.St → Hp → XK → Prop} {pos : Pos} {p : Addr × Obj} (hot : HotN X p) (tk : Gets kT X W) (he : L2N.PMk X e t) : PS X (.Raise (some e) none pos) (fun _ σ H => t σ H fun cls d H' => W cls d σ H') := by
  obtain ⟨hh, hp, v1, d1, c1⟩ := hot
  refine ps_raiseK hh hp tk he (fun J a st => lets_one (st p hp).1 d1 c1) fun oe vs cls d hz hd => ⟨p, ⟨(Obj.cls_mapFields ..).trans hz.1, (HandSPX.dict_mapFields ..).trans hz.2.1, fun us hus => ?_, v1, d1, c1⟩, fun q hq => ?_⟩
  · have sz : 2 < vs.size := (Array.getElem?_eq_some_iff.mp (hz.2.2 vs hd)).1
    have e2 := Obj.data_mapFields hd (·.setIfInBounds 2 (Value.ref p.1))
    rw [hus] at e2
    have e3 : us = vs.setIfInBounds 2 (Value.ref p.1) := Data.fields.inj e2
    rw [e3]
    simp [Array.getElem?_setIfInBounds, sz]
  · have e : q = p := List.mem_singleton.mp hq
    subst e
    exact ⟨hp, v1, d1⟩
end
/-! ### __init__ there -/
structure FnW (P : Program) (w : World) (K : PySem.W.Frag) (mg : Str → Option Value) (base : Heap) (CX : CXT) (k : Nat) (f : Addr) (fd : FuncData) (ps : List Str) (sp : Sp) : Prop where
  len : ∀ vs H Q E, sp vs H Q E → vs.length = ps.length
  run : ∀ (A : Around) (outer : List Env) (s : Shared) (H : Hp) (args : Args) (us : List Value) (vs : List V) (Q : VK) (E : XK) (p : Addr × Obj), L2H.RoomH k A → L2H.PinOk outer H s p → Env0 P w K mg base A outer s H → BindsTo s fd args (ps.zip us) → Vals vs us → sp vs H Q E →
    codeAny (model P w) A (.call (.ref f) args) (CR CX outer P w H s Q E) s
theorem fn_ofW {CX : CXT} {P : Program} {w : World} {K : PySem.W.Frag} {mg : Str → Option Value} {base : Heap} {x qual : Str} {params : Arguments} {body : List Stmt} {scope : Scope} {dvs : List V} {kws : List (Str × V)} {f : Addr} {fd : FuncData} {N ps : List Str} {k : Nat} {sp : Sp}
    (F : FunD K x qual params body scope dvs kws f fd) (S : FnScope N ps scope) (len : ∀ vs H Q E, sp vs H Q E → vs.length = ps.length)
    (walk : ∀ (cdv : Value) (A : Around) (outer : List Env) (s : Shared) (H : Hp) (vs : List V) (Q : VK) (E : XK) (p : Addr × Obj), L2H.RoomH k (A.deeper (envOfC qual scope s.heap.objs.size f cdv)) → sp vs H Q E →
      ∃ t, PSs (L2H.cxH CX P w K mg base N qual scope f cdv A outer s H E p) body t ∧ t { nx := fun _ H' => Q .non H', rt := Q } (start N vs) H) : FnW P w K mg base CX (k + 1) f fd ps sp := by
  obtain ⟨oc, od, dV, kV, doc, pm, an, cdv, ct, osl, rfl, lk, hcd, _, _⟩ := F.ex
  refine ⟨len, fun A outer s H args us vs Q E p room pin e0 bnd rel want => ?_⟩
  have many := len _ _ _ _ want
  have mod_in : K.In s.heap := e0.mod.kin.keeps fun b o e => (e0.bs b o e).1
  have noLim : s.heap.NoLimit := e0.mod.nolimit.keeps fun b o e => (e0.bs b o e).1
  have kinds : ∀ y ∈ ps.zip us, scope.names.lookup y.1 = some .local ∨ (scope.names.lookup y.1 = some .cell ∧ ((cellsFrom (s.heap.objs.size + 1) scope.names []).lookup y.1).isSome = true) := by
    rintro ⟨nm, v⟩ hy
    rcases S.par nm (List.of_mem_zip hy).1 with q | q
    · exact .inl q
    · exact .inr ⟨q, PySem.W.cellsFrom_some _ _ _ (.inl q)⟩
  refine codeAny_call_function room.depth (mod_in _ _ lk) rfl S.co S.gen rfl (PySem.W.codeRec_of mod_in hcd) (bnd _ _ _ _ ?_)
  refine wpAny_newFunctionEnv_cells S.kind kinds fun env he s1 inC => ?_
  subst he
  refine ⟨noLim.keeps inC.toInCall.keep, codeAny_func ?_⟩
  obtain ⟨t, ht, hq⟩ := walk cdv A outer s H vs Q E p (room.deeper _) want
  have I : Inv (L2H.cxH CX P w K mg base N qual scope f cdv A outer s H E p) [] (L2.start N vs) H s1 := L2H.inv_startH S pin e0 many rel inC
  have back : ∀ {σ' : L2.St} {H' : Hp} {v : V} {u : Value} {t' : Shared}, Inv (L2H.cxH CX P w K mg base N qual scope f cdv A outer s H E p) [] σ' H' t' → RelV v u → Q v H' → CE outer P w H s Q u t' :=
    fun {σ' H' v u t'} J rv q => ⟨v, H', J.os, J.bare, J.base, J.hok, rv, q⟩
  refine wpAny_mono (ht.run [] s1 (L2.start N vs) H _ I hq) (fun fl t' got => ?_) fun _ _ z => z
  cases fl with
  | next =>
    obtain ⟨σ', H', J, q⟩ := got
    exact back (v := V.non) (u := Value.none) J rfl q
  | ret u =>
    obtain ⟨v, σ', H', J, rv, q⟩ := got
    exact back J rv q
  | brk => exact got.elim fun _ z => z.elim fun _ y => y.2.elim
  | cont => exact got.elim fun _ z => z.elim fun _ y => y.2.elim
structure OKW (w : World) (K : PySem.W.Frag) (mg : Str → Option Value) (base : Heap) (CX : CXT) (k : Nat) (d : He.DefD) (ps : List Str) (sp : Sp) : Prop where
  ex : ∃ fd, FnW prog w K mg base CX k (He.fAd K d.at_) fd ps sp ∧ Binds K fd ps []
theorem okw_mk {w : World} {K : PySem.W.Frag} {mg : Str → Option Value} {base : Heap} {CX : CXT} {d : He.DefD} {N ps : List Str} {k : Nat} {sp : Sp} (T : Txt w K mg) (i : Nat) (hi : fns[i]? = some d) (S : FnScope N ps d.scope) (hdf : d.dvs K = []) (hkw : d.kws K = [])
    (hb : ∀ (kV doc pm : Value) (an : Option Addr) (cdv ct : Value) (us : List Value), us.length = ps.length → bindArgs (PySem.W.fnOf d.name d.qual d.params d.body d.scope .none kV doc pm an cdv ct) ⟨us, []⟩ = pure (ps.zip us))
    (len : ∀ vs H Q E, sp vs H Q E → vs.length = ps.length)
    (walk : ∀ (f : Addr) (cdv : Value) (A : Around) (outer : List Env) (s : Shared) (H : Hp) (vs : List V) (Q : VK) (E : XK) (p : Addr × Obj), L2H.RoomH k (A.deeper (envOfC d.qual d.scope s.heap.objs.size f cdv)) → sp vs H Q E →
      ∃ t, PSs (L2H.cxH CX prog w K mg base N d.qual d.scope f cdv A outer s H E p) d.body t ∧ t { nx := fun _ H' => Q .non H', rt := Q } (start N vs) H) : OKW w K mg base CX (k + 1) d ps sp := by
  obtain ⟨fd, F⟩ := T.c.t.d.def_ i hi
  rw [hdf, hkw] at F
  exact ⟨fd, fn_ofW F S len fun cdv A outer s H vs Q E p hr h => walk _ cdv A outer s H vs Q E p hr h, F.bindsN hb⟩
/-- C(e, ..) in a suite -/
theorem pmkW {X : Cx} {CX : CXT} {x : Str} {C : Addr} {k : Nat} {dd : He.DefD} {ps : List Str} {sp : Sp} {e : Expr} {es : List Expr} {ta : TA} {p pos : Pos} {pn : Addr × Obj} (F : OKW X.w X.K X.mg X.base CX k dd ps sp) (T : OexC X.K C)
    (iC : PySem.W.findIn X.K (.ref C) "__init__" = some (some (.ref (He.fAd X.K dd.at_)))) (tI : PySem.W.typeIn X.K (.ref (He.fAd X.K dd.at_)) = some (.type "function")) (hr : L2H.RoomH (k + 1) X.A) (hpn : pn ∈ X.pn) (hx : Passes CX X fun _ _ _ => False)
    (hg : Gl X x) (hm : X.mg x = some (.ref C)) (ha : PA X (e :: es) ta) (hp : X.prog = prog := by rfl) (hdb : (x == ("__debug__" : Str)) = false := by decide)
    (hs : starEach (e :: es) X.env = (false, eval e X.env) :: starEach es X.env := by rfl) (hpl : (backTo pos (starEach es X.env)).any (·.1) = false := by rfl) : L2N.PMk X (.Call (.Name x p) (e :: es) [] pos) (tMkO C sp [] ta) := by
  obtain ⟨fd, G, bind⟩ := F.ex
  rw [← hp] at G
  obtain ⟨nm, q, N, bs, bm, sn, sub, ab, col, od, k0, k1, k2, k3, k5, look, refs⟩ := T.cls
  intro pins s σ H Q I h
  refine wpAny_Call_Name_kw (ld_glob I hg hm ?_ hdb)
  refine PySem.W.callWith_K (h₀ := X.base) I.ok.mod.kin T.kC ?_ hs hpl
  refine thn (ha.run pos pins s σ H _ I h) ?_
  rintro us ⟨hp1, gn, dr, tk, os⟩ ⟨vs, H1, I1, rel, small, want⟩
  refine ⟨I1.kIn, ?_⟩
  show wpAny _ _ (call (.ref C) us) _ _ _
  have big : hp1.objs.size ≤ hp1.objs.size + 1 := Nat.le_succ _
  have free : H1 (hp1.objs.size + 1) = none := I1.hok.fresh big
  have want := want _ free
  rw [List.append_nil] at want
  let h2 : Heap := (hp1.push (PySem.W.kdv_tup us)).push (PySem.HandSPX.excO C hp1.objs.size)
  have up : ∀ b o, hp1.get? b = some o → h2.get? b = some o := fun b o z => Heap.get?_push_of_some _ (Heap.get?_push_of_some _ z)
  have there : h2.get? (hp1.objs.size + 1) = some (PySem.HandSPX.excO C hp1.objs.size) := by heap_get
  have J := I1.laid (t' := tk) (h' := h2) (o := exo (hp1.objs.size + 1) C none) up big (exo_ok there)
  have rel2 : Vals (V.ref (hp1.objs.size + 1) :: vs) (Value.ref (hp1.objs.size + 1) :: us) := .cons rfl rel
  have many : (Value.ref (hp1.objs.size + 1) :: us ++ []).length = ps.length := by
    rw [List.append_nil, ← rel2.length]
    exact G.len _ _ _ _ want
  have fits : us.length ≤ sizeLine := by
    rw [← Paired.length rel, sizeLine_eq]
    omega
  have bnd := bind _ (Value.ref (hp1.objs.size + 1) :: us) J.kIn many
  rw [List.append_nil] at bnd
  have P1 := J.pin pn (List.mem_append_left _ hpn)
  have pinned : L2H.PinOk X.stack _ _ pn := ⟨P1.1, P1.2.1, fun hmm => (List.mem_cons.mp (J.stkSub pn.1 hmm)).elim P1.2.2.1 P1.2.2.2.1, P1.2.2.2.2⟩
  have run := G.run _ X.stack _ _ ⟨Value.ref (hp1.objs.size + 1) :: us, []⟩ _ _ _ (fun _ _ _ => False) pn (hr.make C us []) pinned (J.env0.make C us []) bnd rel2 want
  refine wpAny_call (PySem.HandSPX.call_own PySem.F.excBase_ValueError (fun Y => PySem.HandSPX.refsVE_contains Y bm refs) (I1.kIn _ _ look) (PySem.W.looks_findIn I1.kIn iC) (fun self => PySem.W.bind_fn I1.kIn self tI) fits (codeAny_mono run ?_))
  intro r s' hq
  cases r with
  | error er => exact hx pins σ _ _ er s' J hq
  | ok fl =>
    cases fl with
    | next => exact hq.elim
    | brk => exact hq.elim
    | cont => exact hq.elim
    | ret u =>
      obtain ⟨v, H2, eos, bare, un, ok2, rv, ev, d, fs, ea, ed, nd, q2⟩ := hq
      obtain ⟨hh, gg, ddr, tt, oo⟩ := s'
      subst ev
      exact ⟨rv, made_plain (raises_own T.exC T.tyC) I1 big up un ok2 eos bare ea ed nd q2⟩
end Q
set_option Elab.async false
set_option linter.all false
set_option maxRecDepth 100000
set_option maxHeartbeats 4000000
namespace Q
open PySem PySem.Spec PyProof.Rows L2
/-! ### calls in a try's body -/
section
variable {X : Cx} {CX : CXT} {k j : Nat} {E : L2.St → XK} {x : Str} {p pos : Pos} {e : Expr} {es : List Expr} {t : TA}
theorem pe_okS {d : He.DefD} {ps : List Str} {sp : Sp} (F : OKF X.w X.K X.mg X.base CX k d ps sp) (hr : Room k X.A) (hg : Gl X x) (hm : X.mg x = some (.ref (He.fAd X.K d.at_))) (hx : ∀ σ, PassesAt CX X σ (E σ))
    (ha : PA X (e :: es) t) (hp : X.prog = prog := by rfl) (hdb : (x == ("__debug__" : Str)) = false := by decide) (he : starEach (e :: es) X.env = (false, eval e X.env) :: starEach es X.env := by rfl) (hpl : (backTo pos (starEach es X.env)).any (·.1) = false := by rfl) :
    PE X (.Call (.Name x p) (e :: es) [] pos) (tCallS sp E t) := by
  obtain ⟨fd, G, b⟩ := F.ex
  rw [← hp] at G
  exact pe_callS (p := p) (pos := pos) G hr hg hm F.kp b hx ha hdb he hpl
def tCallFS (S : Addr → Sp → Prop) (E : L2.St → XK) (tf : TE) (t : TA) : TE := fun σ H Q => tf σ H fun v H1 => ∃ f sp, v = .ref f ∧ S f sp ∧ t σ H1 fun vs H2 => sp vs H2 Q (E σ)
theorem pe_callLocS {S : Addr → Sp → Prop} (A : ∀ f sp, S f sp → HeldF X.prog X.w X.K X.mg X.base CX k f sp) (hr : Room k X.A) (hx : ∀ σ, PassesAt CX X σ (E σ)) (hN : X.N[j]? = some x) (hv : Vis X.env.scope x) (ha : PA X (e :: es) t)
    (hdb : (x == ("__debug__" : Str)) = false := by decide) (hcd : (x == ("__classdict__" : Str)) = false := by decide)
    (he : starEach (e :: es) X.env = (false, eval e X.env) :: starEach es X.env := by rfl) (hpl : (backTo pos (starEach es X.env)).any (·.1) = false := by rfl) : PE X (.Call (.Name x p) (e :: es) [] pos) (tCallFS S E (tVar j) t) := by
  refine ⟨fun pins s σ H Q I h => ?_⟩
  refine wpAny_Call_Name_kw (thn ((pe_var (pos := p) hN hv hdb hcd).run pins s σ H _ I h) fun u s1 ⟨v, H1, I1, r1, f, sp, ev, hS, q⟩ => ?_)
  subst ev
  obtain rfl : u = Value.ref f := r1
  obtain ⟨fd, ps, F, hk, hb⟩ := (A f sp hS).ex
  exact PySem.W.callWith_K (h₀ := X.base) I1.ok.mod.kin hk (thn (ha.run pos pins s1 σ _ _ I1 q) fun us s2 ⟨vs, H2, I2, r, q⟩ => ⟨I2.kIn, run_fnS F hr hb (hx σ) I2 r q⟩) he hpl
end
theorem hotN_of {X : Cx} {a : Addr} {oe : Obj} {cls : Value} {d : Option Addr} {pn : List (Addr × Obj)} {xe : Value → Shared → Prop} (hz : L2N.Zn cls d oe) (hf : ∃ vs, oe.data = .fields vs) : HotN (suiteE X a ((a, oe) :: pn) xe) (a, oe) := by
  obtain ⟨vs, e⟩ := hf
  exact ⟨rfl, List.mem_cons_self, vs, e, hz.2.2 vs e⟩
theorem hotT_of {X : Cx} {k : Addr × Obj} {a : Addr} {oe : Obj} {cls : Value} {d : Option Addr} {pn : List (Addr × Obj)} {xe : Value → Shared → Prop} (hz : kT.z k cls d oe) (hf : ∃ vs, oe.data = .fields vs) (hpn : ∀ q ∈ kT.p k, q ∈ pn) : HotW (suiteE X a ((a, oe) :: pn) xe) := by
  obtain ⟨vs, e⟩ := hf
  exact .inr ⟨(a, oe), k, rfl, List.mem_cons_self, ⟨vs, e, hz.2.2.1 vs e⟩, List.mem_cons_of_mem _ (hpn k (List.mem_singleton.mpr rfl)), hz.2.2.2⟩
/-! ### TextError, Refused -/
abbrev cText (K : PySem.W.Frag) : Addr := He.ga K "TextError"
abbrev cRef (K : PySem.W.Frag) : Addr := He.ga K "Refused"
def sp_TextError_init (K : PySem.W.Frag) : Sp := sp4 fun a b c e H Q _ => ∃ p, a = .ref p ∧ H p = some (exo p (cText K) none) ∧
  ∀ d, H d = none → d ≠ p → Q .non (upd (upd (upd (upd H d (exd d [("line", b)])) p (exo p (cText K) (some d))) d (exd d [("column", c), ("line", b)])) d (exd d [("kind", e), ("column", c), ("line", b)]))
theorem text_init {K : PySem.W.Frag} {mg : Str → Option Value} {w : World} (T : Txt w K mg) {vs : List V} {H : Hp} {Q : VK} {E : XK} (h : sp_TextError_init K vs H Q E) : tSeq (tOst K "line" (tVar 0) (tVar 1)) (tSeq (tOst K "column" (tVar 0) (tVar 2)) (tOst K "kind" (tVar 0) (tVar 3))) { nx := fun _ H' => Q .non H', rt := Q } (L2.start N_TextError_init vs) H := by
  obtain ⟨_, b, c, e, rfl, p, rfl, hp, hQ⟩ := h
  refine ⟨_, rfl, _, rfl, p, _, rfl, T.o_TextError.1, T.n_TextError_line, .inl ⟨hp, fun d hd ne => ?_⟩⟩
  refine ⟨_, rfl, _, rfl, p, _, rfl, T.o_TextError.1, T.n_TextError_column, .inr ⟨d, _, upd_same, (by rw [upd_ne ne, upd_same]), Nat.le_of_ble_eq_true rfl, ?_⟩⟩
  refine ⟨_, rfl, _, rfl, p, _, rfl, T.o_TextError.1, T.n_TextError_kind, .inr ⟨d, _, (by rw [upd_ne (Ne.symm ne), upd_same]), upd_same, Nat.le_of_ble_eq_true rfl, hQ d hd ne⟩⟩
theorem ok_TextError_init {w : World} {K : PySem.W.Frag} {mg : Str → Option Value} {base : Heap} (T : Txt w K mg) : OKF w K mg base (CX0) 1 d_TextError_init ["self", "line", "column", "kind"] (sp_TextError_init K) := by
  refine okf_mk (k := 0) T 53 rfl sc_TextError_init rfl rfl (fun _ _ _ _ _ _ us hl => match us, hl with | [_, _, _, _], _ => rfl) sp4_len (fun f cdv A outer s H vs Q E hr h => ?_)
  refine ⟨_, (PSs.nox (pss_cons (ps_ost (pv 0) (pv 1))
      (pss_cons (ps_ost (pv 0) (pv 2))
      (pss_one (ps_ost (pv 0) (pv 3)))))), ?_⟩
  exact text_init T h
theorem okw_TextError_init {w : World} {K : PySem.W.Frag} {mg : Str → Option Value} {base : Heap} (T : Txt w K mg) : OKW w K mg base CX0 1 d_TextError_init ["self", "line", "column", "kind"] (sp_TextError_init K) := by
  refine okw_mk (k := 0) T 53 rfl sc_TextError_init rfl rfl (fun _ _ _ _ _ _ us hl => match us, hl with | [_, _, _, _], _ => rfl) sp4_len (fun f cdv A outer s H vs Q E p hr h => ?_)
  refine ⟨_, (PSs.nox (pss_cons (ps_ost (pv 0) (pv 1))
      (pss_cons (ps_ost (pv 0) (pv 2))
      (pss_one (ps_ost (pv 0) (pv 3)))))), ?_⟩
  exact text_init T h
def sp_Refused_init (K : PySem.W.Frag) : Sp := sp2 fun a b H Q _ => ∃ p, a = .ref p ∧ H p = some (exo p (cRef K) none) ∧ ∀ d, H d = none → d ≠ p → Q .non (upd (upd H d (exd d [("row", b)])) p (exo p (cRef K) (some d)))
theorem refused_init {K : PySem.W.Frag} {mg : Str → Option Value} {w : World} (T : Txt w K mg) {vs : List V} {H : Hp} {Q : VK} {E : XK} (h : sp_Refused_init K vs H Q E) : tOst K "row" (tVar 0) (tVar 1) { nx := fun _ H' => Q .non H', rt := Q } (L2.start N_Refused_init vs) H := by
  obtain ⟨_, b, rfl, p, rfl, hp, hQ⟩ := h
  exact ⟨_, rfl, _, rfl, p, _, rfl, T.o_Refused.1, T.n_Refused_row, .inl ⟨hp, fun d hd ne => hQ d hd ne⟩⟩
theorem ok_Refused_init {w : World} {K : PySem.W.Frag} {mg : Str → Option Value} {base : Heap} (T : Txt w K mg) : OKF w K mg base (CX0) 1 d_Refused_init ["self", "row"] (sp_Refused_init K) := by
  refine okf_mk (k := 0) T 73 rfl sc_Refused_init rfl rfl (fun _ _ _ _ _ _ us hl => match us, hl with | [_, _], _ => rfl) sp2_len (fun f cdv A outer s H vs Q E hr h => ?_)
  refine ⟨_, (PSs.nox (pss_one (ps_ost (pv 0) (pv 1)))), ?_⟩
  exact refused_init T h
theorem okw_Refused_init {w : World} {K : PySem.W.Frag} {mg : Str → Option Value} {base : Heap} (T : Txt w K mg) : OKW w K mg base CX0 1 d_Refused_init ["self", "row"] (sp_Refused_init K) := by
  refine okw_mk (k := 0) T 73 rfl sc_Refused_init rfl rfl (fun _ _ _ _ _ _ us hl => match us, hl with | [_, _], _ => rfl) sp2_len (fun f cdv A outer s H vs Q E p hr h => ?_)
  refine ⟨_, (PSs.nox (pss_one (ps_ost (pv 0) (pv 1)))), ?_⟩
  exact refused_init T h
/-- an error's heap when it leaves its frame, one field -/
theorem leave1 {H : Hp} {E : XK} {C : Addr} {b : V} {f : Str} (hE : ∀ d, H d = none → E (.ref C) (some d) (upd H d (.xd [(f, b)]))) {a d : Addr} (ha : H a = none) (hd : upd H a (exo a C none) d = none) (ne : d ≠ a) :
    ∃ (d' : Addr) (fs : List (Str × V)), upd (upd (upd H a (exo a C none)) d (exd d [(f, b)])) a (exo a C (some d)) a = some (exo a C (some d')) ∧ upd (upd (upd H a (exo a C none)) d (exd d [(f, b)])) a (exo a C (some d)) d' = some (exd d' fs) ∧ H d' = none ∧
      E (.ref C) (some d') (upd (del (upd (upd (upd H a (exo a C none)) d (exd d [(f, b)])) a (exo a C (some d))) a) d' (.xd fs)) := by
  rw [upd_ne ne] at hd
  refine ⟨d, _, upd_same, by rw [upd_ne ne, upd_same], hd, ?_⟩
  have e : upd (del (upd (upd (upd H a (exo a C none)) d (exd d [(f, b)])) a (exo a C (some d))) a) d (.xd [(f, b)]) = upd H d (.xd [(f, b)]) := by
    funext x
    by_cases h1 : x = d
    · rw [h1, upd_same, upd_same]
    · rw [upd_ne h1, upd_ne h1]
      by_cases h2 : x = a
      · rw [h2, del_same, ha]
      · rw [del_ne h2, upd_ne h2, upd_ne h1, upd_ne h2]
  rw [e]
  exact hE d hd
theorem leave3 {H : Hp} {E : XK} {C : Addr} {fs1 fs2 fs3 : List (Str × V)} (hE : ∀ d, H d = none → E (.ref C) (some d) (upd H d (.xd fs3))) {a d : Addr} (ha : H a = none) (hd : upd H a (exo a C none) d = none) (ne : d ≠ a) :
    ∃ (d' : Addr) (fs : List (Str × V)), upd (upd (upd (upd (upd H a (exo a C none)) d (exd d fs1)) a (exo a C (some d))) d (exd d fs2)) d (exd d fs3) a = some (exo a C (some d')) ∧
      upd (upd (upd (upd (upd H a (exo a C none)) d (exd d fs1)) a (exo a C (some d))) d (exd d fs2)) d (exd d fs3) d' = some (exd d' fs) ∧ H d' = none ∧
      E (.ref C) (some d') (upd (del (upd (upd (upd (upd (upd H a (exo a C none)) d (exd d fs1)) a (exo a C (some d))) d (exd d fs2)) d (exd d fs3)) a) d' (.xd fs)) := by
  rw [upd_ne ne] at hd
  refine ⟨d, fs3, by rw [upd_ne (Ne.symm ne), upd_ne (Ne.symm ne), upd_same], upd_same, hd, ?_⟩
  have e : upd (del (upd (upd (upd (upd (upd H a (exo a C none)) d (exd d fs1)) a (exo a C (some d))) d (exd d fs2)) d (exd d fs3)) a) d (.xd fs3) = upd H d (.xd fs3) := by
    funext x
    by_cases h1 : x = d
    · rw [h1, upd_same, upd_same]
    · rw [upd_ne h1, upd_ne h1]
      by_cases h2 : x = a
      · rw [h2, del_same, ha]
      · rw [del_ne h2, upd_ne h1, upd_ne h1, upd_ne h2, upd_ne h1, upd_ne h2]
  rw [e]
  exact hE d hd
def vI (l : List Int) : List V := l.map V.int
/-- a Refused, all else as it was -/
def RefS (K : PySem.W.Frag) (H : Hp) (E : XK) (row : List Int) : Prop := ∀ d b H', Same H H' → H' d = some (.xd [("row", .ref b)]) → H' b = some (.lst (vI row)) → E (.ref (cRef K)) (some d) H'
theorem RefS.then {K : PySem.W.Frag} {H H1 : Hp} {E : XK} {row : List Int} (h : RefS K H E row) (s : Same H H1) : RefS K H1 E row := fun d b H' s' e1 e2 => h d b H' (s.trans s') e1 e2
def sp_ask (K : PySem.W.Frag) : Sp := sp2 fun a b H Q E => ∃ (k : Bool) (c : Int), a = .bl k ∧ b = .int c ∧ (k = true → Q .non H) ∧ (k = false → RefS K H E [c])
theorem ok_ask {w : World} {K : PySem.W.Frag} {mg : Str → Option Value} {base : Heap} (T : Txt w K mg) : OKF w K mg base (L2.CX prog w) 3 d_ask ["holds", "code"] (sp_ask K) := by
  refine okf_mk (k := 2) T 75 rfl sc_ask rfl rfl (fun _ _ _ _ _ _ us hl => match us, hl with | [_, _], _ => rfl) sp2_len (fun f cdv A outer s H vs Q E hr h => ?_)
  refine ⟨_, (pss_one (ps_if (pt_not (pt_val (pv 0))) (pss_one (L2N.ps_raise rfl (takes_N (L2.takes_of rfl rfl rfl rfl)) (pmk_init (ok_Refused_init T) T.o_Refused.1 T.m_Refused.at_ T.ty_Refused (hr.mono (by decide)) pass0 rfl T.g_Refused (pa_cons (pe_lst (pa_cons (pv 1) pa_nil)) pa_nil))))
      pss_nil)), ?_⟩
  obtain ⟨_, _, rfl, k, c, rfl, rfl, hQ, hE⟩ := h
  refine ⟨_, rfl, _, rfl, ?_⟩
  cases k with
  | true => exact iteF (hQ rfl)
  | false =>
    refine iteT ⟨_, rfl, by show 1 ≤ sizeLine; decide, fun b hb => ⟨Nat.le_of_ble_eq_true rfl, fun a ha => ?_⟩⟩
    refine ⟨_, _, rfl, a, rfl, upd_same, fun d hd ne => ⟨rfl, ?_⟩⟩
    refine leave1 (fun d hd => ?_) ha hd ne
    have hb' : H b = none := hb
    have nd : b ≠ d := by rintro rfl; rw [upd_same] at hd; cases hd
    refine hE rfl d b _ ((Same.new hb).to hd) upd_same ?_
    rw [upd_ne nd, upd_same]
    rfl
end Q
set_option Elab.async false
set_option linter.all false
set_option maxRecDepth 100000
set_option maxHeartbeats 4000000
namespace Q
open PySem PySem.Spec PyProof.Rows L2
/-! ### the lines of a text are done -/
def textX (n : Nat) (f : Lrx9.Fault) : List (Str × V) := [("kind", .int (f.kind : Int)), ("column", .int (f.column : Int)), ("line", .int (n : Int))]
def TextS (K : PySem.W.Frag) (H : Hp) (E : XK) (n : Nat) (f : Lrx9.Fault) : Prop := ∀ d H', Same H H' → H' d = some (.xd (textX n f)) → E (.ref (cText K)) (some d) H'
def RowsV (K : PySem.W.Frag) (H : Hp) (a : Addr) (rows : List (List Nat)) : Prop := ∃ vs, SqL K H a vs ∧ Paired (RowV K H) vs rows
theorem RowsV.same {K : PySem.W.Frag} {H H' : Hp} {a : Addr} {rows : List (List Nat)} (h : RowsV K H a rows) (e : Same H H') : RowsV K H' a rows := by
  obtain ⟨vs, h1, h2⟩ := h
  exact ⟨vs, e.seq h1, paired_imp (fun _ _ z => z.same e) h2⟩
theorem paired_get {α β : Type} {F : α → β → Prop} : ∀ {l : List α} {m : List β} {k : Nat} {v : α}, Paired F l m → l[k]? = some v → ∃ t, m[k]? = some t ∧ F v t
  | _, _, k, t, .nil, h => by simp at h
  | a :: l, b :: m, 0, t, .cons r _, h => by simp at h; subst h; exact ⟨b, by simp, r⟩
  | a :: l, b :: m, k + 1, t, .cons _ r, h => by
    have := paired_get (k := k) (v := t) r (by simpa using h)
    simpa using this
def sp_done (K : PySem.W.Frag) : Sp := sp3 fun a b c H Q E => ∃ (d : MD) (M : Lrx9.Model) (rl : Addr) (rows : List (List Nat)) (once : Bool), a = .ref d.a ∧ b = .ref rl ∧ c = .bl once ∧ RowsV K H rl rows ∧ (∀ r ∈ rows, r.length ≤ 80) ∧ MdO K H d M ∧ Qu.Wf M ∧
  match Lrx9.runLines (!once) 0 rows M with
  | .error (n, f) => TextS K H E n f
  | .ok M' => ∀ d' H', Same H H' → MdO K H' d' M' → MdNew d' H → Qu.Wf M' → Q (.ref d'.a) H'
theorem run_step {am : Bool} {i : Nat} {row : List Nat} {rest : List (List Nat)} {M : Lrx9.Model} : Lrx9.runLines am i (row :: rest) M = match lineDo M am row with
    | .error f => .error (i, f)
    | .ok M' => Lrx9.runLines am (i + 1) rest M' := by
  unfold lineDo
  rw [Lrx9.runLines]
  cases Lrx9.tokens row with
  | error f => rfl
  | ok ts => rfl
theorem line_wf {M M' : Lrx9.Model} {am : Bool} {row : List Nat} (wf : Qu.Wf M) (h : lineDo M am row = .ok M') : Qu.Wf M' := by
  unfold lineDo at h
  cases ht : Lrx9.tokens row with
  | error f => rw [ht] at h; cases h
  | ok ts =>
    rw [ht] at h
    exact Qu.statement_wf wf (Qu.tokens_ok ht).1 h
def tryDone (K : PySem.W.Frag) (E : XK) : TS := fun F => tDrop (tCallS (sp_do_line K) (WE (wYes K (.ref (cLine K)) 6 (fun a cls d _ σ H => tMkO (cText K) (sp_TextError_init K) [] (tCons (tVar 4) (tCons (tXf a cls d (cLine K) "column" (tVar 6)) (tCons (tXf a cls d (cLine K) "kind" (tVar 6)) tNil))) σ H fun cls d H' => E cls d H') F)) (tCons (tVar 3) (tCons (tVar 5) (tCons (tVar 2) tNil)))) F
theorem ok_done {w : World} {K : PySem.W.Frag} {mg : Str → Option Value} {base : Heap} (T : Txt w K mg) : OKF w K mg base (CXK kT prog w) 12 d_done ["model", "rows", "is_once"] (sp_done K) := by
  refine okf_mk (k := 11) T 71 rfl sc_done rfl rfl (fun _ _ _ _ _ _ us hl => match us, hl with | [_, _, _], _ => rfl) sp3_len (fun f cdv A outer s H vs Q E hr h => ?_)
  refine ⟨_, (pss_cons (ps_set (i := 3) sc_done.nd rfl (Or.inl rfl) (pe_ok (ok_copy_of T) (hr.mono (by decide)) rfl T.g_copy_of pass0 (pa_cons (pv 0) pa_nil)))
      (pss_cons (ps_for (L2.passes_of rfl) rfl (pi_enum rfl T.f_enumerate (pa_cons (pv 1) pa_nil)) (pg_tup rfl (pgs_cons (pg_name (i := 4) sc_done.nd rfl (Or.inl rfl)) (pgs_cons (pg_name (i := 5) sc_done.nd rfl (Or.inl rfl)) pgs_nil)))
      (pss_one (ps_try_asK (D := kN) (D' := kT) (i := 6) rfl rfl rfl sc_done.nd rfl rfl ⟨rfl, by decide, .inl T.g_LineError⟩ (fun hd => L2H.passesAt_of rfl hd) (gets_of rfl rfl rfl rfl) (fun W pn xe tk _ => (pss_one (ps_expr (pe_okS (ok_do_line T) (hr.mono (by decide)) rfl T.g_do_line (fun σ => L2N.passAt (gets_n.mp tk) σ) (pa_cons (pv 3) (pa_cons (pv 5) (pa_cons (pv 2) pa_nil)))))))
      (fun k a oe cls d pn xe hz hf hpn tkS => (pss_one (ps_raiseT (hotN_of hz hf) tkS (pmkW (okw_TextError_init T) T.o_TextError.1 T.m_TextError.at_ T.ty_TextError (L2H.roomH_mark (hr.mono (by decide)) _) List.mem_cons_self pass0 rfl T.g_TextError (pa_cons (pv 4) (pa_cons (PE.nox (pe_xf T.o_LineError.2 T.n_LineError_column (kN.cl _ _ _ _ hz) hf (pv 6))) (pa_cons (PE.nox (pe_xf T.o_LineError.2 T.n_LineError_kind (kN.cl _ _ _ _ hz) hf (pv 6))) pa_nil))))))))))
      (pss_one (ps_ret (pv 3))))), ?_⟩
  obtain ⟨_, _, _, rfl, d, M, rl, rows, once, rfl, rfl, rfl, RV, hz, MO, wf, hQ⟩ := h
  refine ⟨_, rfl, _, rfl, d, M, rfl, MO, wf, fun d0 H0 s0 MO0 nw0 => ?_⟩
  obtain ⟨vs, hS, hP⟩ := id RV
  refine ⟨_, rfl, rl, vs, rfl, s0.seq hS, for_it (tb := tryDone K E) (g := gTup K 2 (gCons (gName 4) (gCons (gName 5) gNil))) (walk_enum (K := K) (a := rl) (xs := vs)) (fun i σ H' => ∃ (d1 : MD) (M1 : Lrx9.Model) (v4 v5 v6 : Option V), σ = [some (.ref d.a), some (.ref rl), some (.bl once), some (.ref d1.a), v4, v5, v6] ∧ Same H H' ∧ MdO K H' d1 M1 ∧ MdNew d1 H ∧ Qu.Wf M1 ∧
    Lrx9.runLines (!once) i (rows.drop i) M1 = Lrx9.runLines (!once) 0 rows M) ⟨d0, M, none, none, none, rfl, s0, MO0, nw0, wf, rfl⟩ ?_ ?_ ?_⟩
  · rintro i σ H' hi ⟨d1, M1, v4, v5, v6, -, s1, -⟩
    exact s1.seq hS
  · rintro i v σ H1 H2 hi ⟨d1, M1, v4, v5, v6, rfl, s1, MO1, nw1, wf1, hr⟩ ⟨Tp, x, y, rfl, hT, rfl, ex, hy⟩
    have s2 : Same H1 (upd H1 Tp (.tup [x, y])) := Same.new hT
    have hx : x = .int (i : Int) := (Option.some.inj ex).symm
    subst hx
    obtain ⟨row, hrow, rowv⟩ := paired_get hP hy
    refine ⟨Tp, _, rfl, SqT.of upd_same, rfl, _, _, rfl, _, _, rfl, rfl, ?_⟩
    generalize upd H1 Tp (.tup [.int (i : Int), y]) = H2 at *
    have s02 := s1.trans s2
    have MO2 := MO1.same s2
    have hd : rows.drop i = row :: rows.drop (i + 1) := by
      obtain ⟨lt, e⟩ := List.getElem?_eq_some_iff.mp hrow
      rw [List.drop_eq_getElem_cons lt, e]
    rw [hd, run_step] at hr
    refine ⟨_, rfl, _, rfl, _, rfl, _, _, _, rfl, d1, M1, row, once, rfl, rowv.same s02, rfl, hz row (List.mem_of_getElem? hrow), MO2, wf1, ?_⟩
    cases hl : lineDo M1 (!once) row with
    | error f =>
      rw [hl] at hr
      rw [← hr] at hQ
      intro dx H3 F3 hx3
      refine ⟨T.exm_LineError_LineError, fun a ha => ?_⟩
      have s3 : Same H H3 := s02.trans F3.same
      refine ⟨_, rfl, _, rfl, rfl, rfl, _, _, _, rfl, hx3, rfl, _, rfl, rfl, rfl, _, _, _, rfl, hx3, rfl, Nat.le_of_ble_eq_true rfl, fun p hp => ?_⟩
      refine ⟨_, _, _, _, rfl, p, rfl, upd_same, fun dd hdd ne => ⟨rfl, leave3 (fun d2 hd2 => ?_) hp hdd ne⟩⟩
      exact (show TextS K H E i f from hQ) d2 _ (s3.to hd2) upd_same
    | ok M2 =>
      rw [hl] at hr
      intro H3 F3 MO3
      have s3 : Same H H3 := Fm.same ((s02.fm (S := fun _ => False)).then F3 fun b z => .inr (nw1 b (List.mem_cons_of_mem _ z)))
      exact ⟨d1, M2, _, _, _, rfl, s3, MO3, nw1, line_wf wf1 hl, hr⟩
  · rintro σ H1 ⟨d1, M1, v4, v5, v6, rfl, s1, MO1, nw1, wf1, hr⟩
    have e : rows.drop vs.length = [] := by
      rw [paired_len hP]
      exact List.drop_length
    rw [e] at hr
    rw [← hr] at hQ
    exact ⟨_, rfl, hQ d1 H1 s1 MO1 nw1 wf1⟩
end Q
set_option Elab.async false
set_option linter.all false
set_option maxRecDepth 100000
set_option maxHeartbeats 4000000
namespace Q
open PySem PySem.Spec PyProof.Rows L2
/-! ### texts -/
/-- a row as a list of its own -/
def RowL (H : Hp) (v : V) (row : List Nat) : Prop := ∃ a, v = .ref a ∧ H a = some (.lst (vN row))
theorem RowL.v {K : PySem.W.Frag} {H : Hp} {v : V} {row : List Nat} (h : RowL H v row) : RowV K H v row := by
  obtain ⟨a, e, h⟩ := h
  exact ⟨a, e, SqL.of h⟩
theorem RowL.ne {H : Hp} {v : V} {p : Addr} {row : List Nat} {o : HO} (h : RowL H v row) (ne : v ≠ .ref p) : RowL (upd H p o) v row := by
  obtain ⟨a, rfl, h⟩ := h
  exact ⟨a, rfl, by rw [upd_ne fun z => ne (by rw [z])]; exact h⟩
theorem RowL.new {H : Hp} {v : V} {p : Addr} {row : List Nat} (h : RowL H v row) (n : H p = none) : v ≠ .ref p := by
  obtain ⟨a, rfl, h⟩ := h
  intro z
  injection z with z
  rw [z, n] at h
  cases h
theorem paired_impM {α β : Type} {F G : α → β → Prop} : ∀ {l : List α} {m : List β}, (∀ a ∈ l, ∀ b, F a b → G a b) → Paired F l m → Paired G l m
  | _, _, _, .nil => .nil
  | _, _, k, .cons r t => .cons (k _ List.mem_cons_self _ r) (paired_impM (fun a ha b => k a (List.mem_cons_of_mem _ ha) b) t)
theorem ints_shaped (l : List Nat) : SeqAt.shaped (.list (l.map fun (b : Nat) => PyData.int (b : Int))) = true := by
  have lay : ∀ l : List Nat, PyData.canLayAll0 (l.map fun (b : Nat) => PyData.int (b : Int)) = true ∧ PyData.depthAll (l.map fun (b : Nat) => PyData.int (b : Int)) ≤ 0 := by
    intro l
    induction l with
    | nil => exact ⟨by simp [PyData.canLayAll0], by simp [PyData.depthAll]⟩
    | cons b r ih =>
      refine ⟨by simp [PyData.canLayAll0, PyData.canLay0, ih.1], ?_⟩
      simp only [List.map_cons, PyData.depthAll, PyData.depth]
      omega
  have h := lay l
  show (PyData.canLay0 _ && decide (PyData.depth _ ≤ 64)) = true
  rw [Bool.and_eq_true]
  refine ⟨by simp only [PyData.canLay0]; exact h.1, decide_eq_true ?_⟩
  simp only [PyData.depth]
  omega
theorem ints_dp {K : PySem.W.Frag} {H : Hp} {a : Addr} {l : List Nat} (h : SqL K H a (vN l)) : Dp K H (.ref a) (.list (l.map fun (b : Nat) => PyData.int (b : Int))) := by
  refine .lst h ?_
  clear h
  induction l with
  | nil => exact .nil
  | cons b r ih => exact .cons (.int _) ih
theorem ints_nil (l : List Nat) : PyData.eqv (.list (l.map fun (b : Nat) => PyData.int (b : Int))) (.list []) = decide (l = []) := by
  cases l with
  | nil => simp [PyData.eqv, PyData.eqvAll]
  | cons b r => simp [PyData.eqv, PyData.eqvAll]
def RowsL (H : Hp) (b : Addr) (rows : List (List Nat)) : Prop := ∃ vs, H b = some (.lst vs) ∧ Paired (RowL H) vs rows
theorem RowsL.v {K : PySem.W.Frag} {H : Hp} {b : Addr} {rows : List (List Nat)} (h : RowsL H b rows) : RowsV K H b rows := by
  obtain ⟨vs, h1, h2⟩ := h
  exact ⟨vs, SqL.of h1, paired_imp (fun _ _ z => z.v) h2⟩
theorem RowsL.same {H H' : Hp} {b : Addr} {rows : List (List Nat)} (h : RowsL H b rows) (e : Same H H') : RowsL H' b rows := by
  obtain ⟨vs, h1, h2⟩ := h
  exact ⟨vs, e _ _ h1, paired_imp (fun _ _ ⟨a, e1, e2⟩ => ⟨a, e1, e _ _ e2⟩) h2⟩
def sp_lines_of (K : PySem.W.Frag) : Sp := sp1 fun a H Q _ => ∃ text, RowV K H a text ∧ text.length ≤ 1000 ∧ ∀ b H', Same H H' → RowsL H' b (Lrx9.linesOf text) → Q (.ref b) H'
/-- the loop's word -/
def WLin (K : PySem.W.Frag) (H : Hp) (ta : Addr) (text : List Nat) (i : Nat) (σ : L2.St) (H' : Hp) : Prop :=
  ∃ (p q : Addr) (vs : List V) (v3 : Option V), σ = [some (.ref ta), some (.ref p), some (.ref q), v3] ∧ Same H H' ∧ H p = none ∧ H q = none ∧ p ≠ q ∧ H' p = some (.lst vs) ∧ H' q = some (.lst (vN ((text.take i).foldl Qu.lnStep ([], [])).2)) ∧
    Paired (RowL H') vs ((text.take i).foldl Qu.lnStep ([], [])).1 ∧ (∀ v ∈ vs, v ≠ .ref q ∧ v ≠ .ref p)
theorem ok_lines_of {w : World} {K : PySem.W.Frag} {mg : Str → Option Value} {base : Heap} (T : Txt w K mg) : OKF w K mg base (CX0) 1 d_lines_of ["text"] (sp_lines_of K) := by
  refine okf_mk (k := 0) T 76 rfl sc_lines_of rfl rfl (fun _ _ _ _ _ _ us hl => match us, hl with | [_], _ => rfl) sp1_len (fun f cdv A outer s H vs Q E hr h => ?_)
  have hu := hu_of hr
  have hu64 := hr.units
  refine ⟨_, (PSs.nox (pss_cons (ps_par (i := 1) (j := 2) rfl sc_lines_of.nd rfl rfl (by decide) rfl rfl (pa_cons (pe_lst pa_nil) (pa_cons (pe_lst pa_nil) pa_nil)) (by rfl))
      (pss_cons (ps_for PassesOwn.never rfl (pi_list (pv 0)) (pg_name (i := 3) sc_lines_of.nd rfl (Or.inl rfl))
      (pss_one (ps_if (pt_cmpR op_eq (pv 3) (pe_gint rfl (T.int_FEED)) (nomark _)) (pss_cons (ps_expr (pe_bm PySem.F.plainAttrs_list PySem.F.slot_list_append PySem.F.type_list_append mt_append (pv 1) (pa_cons (pv 2) pa_nil)))
      (pss_one (ps_set (i := 2) sc_lines_of.nd rfl (Or.inl rfl) (pe_lst pa_nil))))
      (pss_one (ps_expr (pe_bm PySem.F.plainAttrs_list PySem.F.slot_list_append PySem.F.type_list_append mt_append (pv 2) (pa_cons (pv 3) pa_nil)))))))
      (pss_one (ps_ret (pe_op op_cat (pv 1) (pe_ifExp (pt_cmpR (op_neD hu64) (pv 2) (pe_lst pa_nil) (nomark _)) (pe_lst (pa_cons (pv 2) pa_nil)) (pe_lst pa_nil)))))))), ?_⟩
  obtain ⟨_, rfl, text, ⟨ta, rfl, hS⟩, hz, hQ⟩ := h
  refine ⟨by show 0 ≤ sizeLine; decide, fun p hp => ⟨by show 0 ≤ sizeLine; decide, fun q hq => ⟨_, _, rfl, ?_⟩⟩⟩
  have npq : p ≠ q := by rintro rfl; rw [upd_same] at hq; cases hq
  have s0 : Same H (upd (upd H p (.lst [])) q (.lst [])) := (Same.new hp).to hq
  have q0 : H q = none := by rw [upd_ne npq.symm] at hq; exact hq
  refine ⟨_, rfl, ta, rfl, ⟨_, s0.seq hS⟩, for_list (K := K) (a := ta) (xs := vN text) (WLin K H ta text) ⟨p, q, [], none, rfl, s0, hp, q0, npq, by rw [upd_ne npq, upd_same], upd_same, .nil, fun v hv => by cases hv⟩ ?_ ?_ ?_⟩
  · rintro i σ H' hi ⟨p, q, vs, v3, -, s1, -⟩
    exact s1.seq hS
  · rintro i x σ H' hi ⟨p, q, vs, v3, rfl, s1, hp, hq, npq, ep, eq, hP, nv⟩
    obtain ⟨b, hb, rfl⟩ : ∃ b, text[i]? = some b ∧ x = V.int (b : Int) := by
      unfold vN at hi
      rw [List.getElem?_map] at hi
      obtain ⟨b, hb, e⟩ := Option.map_eq_some_iff.mp hi
      exact ⟨b, hb, e.symm⟩
    have step := Qu.ln_take hb
    have ll := Qu.ln_len (text.take i) ([], [])
    have tl : (text.take i).length ≤ 1000 := by rw [List.length_take]; omega
    refine ⟨_, rfl, rfl, _, rfl, ?_⟩
    have e10 : decide (V.int (b : Int) = V.int 10) = decide (b = 10) := by rw [show (10 : Int) = ((10 : Nat) : Int) from rfl, dec_ieq, Bool.beq_eq_decide_eq]
    rw [e10]
    refine ite2 (fun c => ?_) (fun c => ?_)
    · have c' := of_decide_eq_true c
      refine ⟨_, rfl, .inl ⟨rfl, _, SqL.of ep⟩, _, rfl, p, vs, .ref q, rfl, rfl, ep, ?_, by show 0 ≤ sizeLine; decide, fun q2 hq2 => ?_⟩
      · rw [paired_len hP]
        exact Nat.lt_of_le_of_lt (show _ ≤ 1000 by simp at ll; omega) (by decide)
      have n2p : q2 ≠ p := by rintro rfl; rw [upd_same] at hq2; cases hq2
      have hq2' : H' q2 = none := by rw [upd_ne n2p] at hq2; exact hq2
      have n2q : q2 ≠ q := by rintro rfl; rw [eq] at hq2'; cases hq2'
      refine ⟨p, q2, vs ++ [.ref q], some (.int (b : Int)), rfl, (s1.put hp).to hq2, hp, s1.no _ hq2', n2p.symm, by rw [upd_ne n2p.symm, upd_same], ?_, ?_, ?_⟩
      · rw [upd_same, step]
        unfold Qu.lnStep
        rw [if_pos c']
        rfl
      · rw [step]
        unfold Qu.lnStep
        rw [if_pos c']
        refine paired_snoc (F := RowL _) ⟨q, rfl, ?_⟩ (paired_impM (fun v hv row z => ?_) hP)
        · rw [upd_ne n2q.symm, upd_ne npq.symm]
          exact eq
        · exact (z.ne (nv _ hv).2).ne (z.new hq2')
      · intro v hv
        rcases List.mem_append.mp hv with hv | hv
        · obtain ⟨y, -, hy⟩ := paired_left hP v hv
          exact ⟨hy.new hq2', (nv v hv).2⟩
        · rw [List.mem_singleton] at hv
          subst hv
          exact ⟨fun z => n2q (by injection z with z; exact z.symm), fun z => npq (by injection z with z; exact z.symm)⟩
    · have c' : ¬ b = 10 := fun z => c (decide_eq_true z)
      refine ⟨_, rfl, .inl ⟨rfl, _, SqL.of eq⟩, _, rfl, q, _, .int (b : Int), rfl, rfl, eq, ?_, ?_⟩
      · rw [vN_len]
        exact Nat.lt_of_le_of_lt (show _ ≤ 1000 by simp at ll; omega) (by decide)
      refine ⟨p, q, vs, some (.int (b : Int)), rfl, s1.put hq, hp, hq, npq, by rw [upd_ne npq]; exact ep, ?_, ?_, nv⟩
      · rw [upd_same, step]
        unfold Qu.lnStep
        rw [if_neg c']
        simp [vN]
      · rw [step]
        unfold Qu.lnStep
        rw [if_neg c']
        exact paired_impM (fun v hv row z => z.ne (nv v hv).1) hP
  · rintro σ H' ⟨p, q, vs, v3, rfl, s1, hp, hq, npq, ep, eq, hP, nv⟩
    rw [vN_len, List.take_length] at eq hP
    have ll := Qu.ln_len text ([], [])
    have l1 : vs.length ≤ 1000 := by rw [paired_len hP]; simp at ll; omega
    rw [Qu.lines_fold] at hQ
    generalize (text.foldl Qu.lnStep ([], [])).1 = fd at *
    generalize (text.foldl Qu.lnStep ([], [])).2 = rw_ at *
    have big : vs.length + 1 ≤ sizeLine := Nat.le_trans (show _ ≤ 1001 by omega) (by decide)
    refine ⟨_, rfl, _, rfl, by show 0 ≤ sizeLine; decide, fun e he => ?_⟩
    have s2 : Same H' (upd H' e (.lst [])) := Same.new he
    have ne_e : e ≠ q := by rintro rfl; rw [eq] at he; cases he
    refine ⟨_, _, ints_dp (SqL.of (s2 _ _ eq)), .lst (SqL.of upd_same) .nil, ints_shaped _, rfl, _, rfl, ?_⟩
    rw [ints_nil]
    have hP2 : Paired (RowL (upd H' e (.lst []))) vs fd := paired_impM (fun v hv row z => z.ne (z.new he)) hP
    have ep2 := s2 _ _ ep
    have eq2 := s2 _ _ eq
    generalize upd H' e (.lst []) = H2 at *
    by_cases c : rw_ = []
    · rw [decide_eq_true c]
      rw [if_pos c, List.append_nil] at hQ
      refine iteF ⟨by show 0 ≤ sizeLine; decide, fun f hf => ⟨p, f, vs, [], rfl, rfl, Same.new hf _ _ ep2, upd_same, Nat.le_of_succ_le big, fun g hg => ?_⟩⟩
      rw [List.append_nil]
      have hg0 : H2 g = none := Same.no (Same.new hf) g hg
      exact hQ g _ (((s1.trans s2).to hf).to hg) ⟨vs, upd_same, paired_impM (fun v hv row z => (z.ne (z.new hf)).ne (z.new hg0)) hP2⟩
    · rw [decide_eq_false c]
      rw [if_neg c] at hQ
      refine iteT ⟨_, rfl, by show 1 ≤ sizeLine; decide, fun f hf => ⟨p, f, vs, [.ref q], rfl, rfl, Same.new hf _ _ ep2, upd_same, big, fun g hg => ?_⟩⟩
      have hg0 : H2 g = none := Same.no (Same.new hf) g hg
      refine hQ g _ (((s1.trans s2).to hf).to hg) ⟨vs ++ [.ref q], upd_same, paired_snoc ?_ (paired_impM (fun v hv row z => (z.ne (z.new hf)).ne (z.new hg0)) hP2)⟩
      exact ((show RowL H2 (.ref q) rw_ from ⟨q, rfl, eq2⟩).ne (RowL.new ⟨q, rfl, eq2⟩ hf)).ne (RowL.new ⟨q, rfl, eq2⟩ hg0)
end Q
set_option Elab.async false
set_option linter.all false
set_option maxRecDepth 100000
set_option maxHeartbeats 4000000
namespace Q
open PySem PySem.Spec PyProof.Rows L2
abbrev rLn (K : PySem.W.Frag) : List V → Hp → VK → Prop := fun xs H Q => ∃ p ys, xs = [V.ref p] ∧ (SqL K H p ys ∨ SqT K H p ys) ∧ Q (.int (ys.length : Nat)) H
theorem paired_eq {α : Type} : ∀ {l m : List α}, Paired (fun x y => y = x) l m → m = l
  | _, _, .nil => rfl
  | _, _, .cons h r => by rw [h, paired_eq r]
def isBig (v : V) : Bool := match v with
  | .int i => decide (255 < i)
  | _ => false
theorem big_filter (text : List Nat) : (vN text).filter isBig = vN (text.filter fun b => decide (255 < b)) := by
  unfold vN
  rw [List.filter_map]
  congr 1
  refine List.filter_congr fun b _ => ?_
  show decide ((255 : Int) < (b : Int)) = decide (255 < b)
  exact decide_eq_decide.mpr (by omega)
theorem bytes_eq (text : List Nat) : decide (text.filter (fun b => decide (255 < b)) = []) = Lrx9.isBytes text := by
  unfold Lrx9.isBytes
  rw [Bool.eq_iff_iff, decide_eq_true_iff, List.filter_eq_nil_iff, List.all_eq_true]
  refine forall_congr' fun b => forall_congr' fun _ => ?_
  simp
/-- too long rows -/
def isLong (H : Hp) (v : V) : Bool := match v with
  | .ref a => match H a with
    | some (.lst xs) => decide (80 < xs.length)
    | _ => false
  | _ => false
theorem long_row {H : Hp} {v : V} {row : List Nat} (h : RowL H v row) : isLong H v = decide (80 < row.length) := by
  obtain ⟨a, rfl, h⟩ := h
  unfold isLong
  simp only [h, vN_len]
theorem long_filter {H : Hp} : ∀ {vs : List V} {rows : List (List Nat)}, Paired (RowL H) vs rows → Paired (RowL H) (vs.filter (isLong H)) (rows.filter fun r => decide (80 < r.length))
  | _, _, .nil => .nil
  | v :: vs, r :: rows, .cons h t => by
    have e := long_row h
    cases c : decide (80 < r.length) with
    | true =>
      rw [List.filter_cons_of_pos (by rw [e]; exact c), List.filter_cons_of_pos (by exact c)]
      exact .cons h (long_filter t)
    | false =>
      rw [List.filter_cons_of_neg (by rw [e, c]; exact Bool.false_ne_true), List.filter_cons_of_neg (by rw [c]; exact Bool.false_ne_true)]
      exact long_filter t
def rowD (r : List Nat) : PyData := .list (r.map fun (b : Nat) => PyData.int (b : Int))
theorem rows_dp {K : PySem.W.Frag} {H : Hp} : ∀ {vs : List V} {rows : List (List Nat)}, Paired (RowL H) vs rows → DpAll K H vs (rows.map rowD)
  | _, _, .nil => .nil
  | _, _, .cons ⟨a, e, h⟩ t => by
    subst e
    exact .cons (ints_dp (SqL.of h)) (rows_dp t)
theorem rows_shaped (rows : List (List Nat)) : SeqAt.shaped (.list (rows.map rowD)) = true := by
  have one : ∀ r : List Nat, (rowD r).canLay0 = true ∧ (rowD r).depth ≤ 1 := fun r => by
    have lay : ∀ l : List Nat, PyData.canLayAll0 (l.map fun (b : Nat) => PyData.int (b : Int)) = true ∧ PyData.depthAll (l.map fun (b : Nat) => PyData.int (b : Int)) ≤ 0 := by
      intro l
      induction l with
      | nil => exact ⟨by simp [PyData.canLayAll0], by simp [PyData.depthAll]⟩
      | cons b r ih =>
        refine ⟨by simp [PyData.canLayAll0, PyData.canLay0, ih.1], ?_⟩
        simp only [List.map_cons, PyData.depthAll, PyData.depth]
        omega
    have h := lay r
    unfold rowD
    refine ⟨by simp only [PyData.canLay0]; exact h.1, ?_⟩
    simp only [PyData.depth]
    omega
  have all : ∀ rows : List (List Nat), PyData.canLayAll0 (rows.map rowD) = true ∧ PyData.depthAll (rows.map rowD) ≤ 1 := by
    intro rows
    induction rows with
    | nil => exact ⟨by simp [PyData.canLayAll0], by simp [PyData.depthAll]⟩
    | cons r rs ih =>
      have o := one r
      refine ⟨by simp [PyData.canLayAll0, o.1, ih.1], ?_⟩
      simp only [List.map_cons, PyData.depthAll]
      omega
  have h := all rows
  show (PyData.canLay0 _ && decide (PyData.depth _ ≤ 64)) = true
  rw [Bool.and_eq_true]
  refine ⟨by simp only [PyData.canLay0]; exact h.1, decide_eq_true ?_⟩
  simp only [PyData.depth]
  omega
theorem rows_nil (rows : List (List Nat)) : PyData.eqv (.list (rows.map rowD)) (.list []) = decide (rows = []) := by
  cases rows with
  | nil => simp [PyData.eqv, PyData.eqvAll]
  | cons b r => simp [PyData.eqv, PyData.eqvAll]
theorem text_eq (text : List Nat) : Lrx9.isText text = (decide (((Lrx9.linesOf text).length : Int) ≤ 60) && decide ((Lrx9.linesOf text).filter (fun r => decide (80 < r.length)) = [])) := by
  unfold Lrx9.isText
  congr 1
  · exact decide_eq_decide.mpr (by simp only [Lrx9.maxLines]; omega)
  · rw [Bool.eq_iff_iff, decide_eq_true_iff, List.filter_eq_nil_iff, List.all_eq_true]
    refine forall_congr' fun b => forall_congr' fun _ => ?_
    rw [decide_eq_true_iff, decide_eq_true_iff]
    simp only [Lrx9.maxLine]
    omega
def sp_asked_text (K : PySem.W.Frag) : Sp := sp1 fun a H Q E => ∃ text, RowV K H a text ∧ text.length ≤ 1000 ∧ ((Lrx9.isBytes text && Lrx9.isText text) = true → ∀ b H', Same H H' → RowsL H' b (Lrx9.linesOf text) → Q (.ref b) H') ∧ ((Lrx9.isBytes text && Lrx9.isText text) = false → RefS K H E [-22])
theorem ok_asked_text {w : World} {K : PySem.W.Frag} {mg : Str → Option Value} {base : Heap} (T : Txt w K mg) : OKF w K mg base (L2.CX prog w) 4 d_asked_text ["text"] (sp_asked_text K) := by
  refine okf_mk (k := 3) T 77 rfl sc_asked_text rfl rfl (fun _ _ _ _ _ _ us hl => match us, hl with | [_], _ => rfl) sp1_len (fun f cdv A outer s H vs Q E hr h => ?_)
  have hu := hu_of hr
  have hu64 := hr.units
  refine ⟨_, (pss_cons (ps_set (i := 1) sc_asked_text.nd rfl (Or.inl rfl) (pe_ok (ok_lines_of T) (hr.mono (by decide)) rfl T.g_lines_of pass0 (pa_cons (pv 0) pa_nil)))
      (pss_cons (ps_expr (pe_ok (ok_ask T) (hr.mono (by decide)) rfl T.g_ask (L2.passes_call (L2.takes_of rfl rfl rfl rfl) fun _ _ _ _ h => h) (pa_cons (pe_cmpR (op_eqD hu64) (pe_lc (own := [("byte", 2)]) (g := gName 2)  rfl sc_asked_text.nd (pi_list (pv 0)) (blkOk_by (N := N_asked_text) (sc := defScope s_asked_text) (by decide +kernel)) (fun _ _ _ _ _ => (pg_name (i := 2) sc_asked_text.nd rfl (Or.inl rfl))) (fun _ _ _ _ _ => (pts_one (pt_cmpR op_gt (pv 2) (pe_gint rfl (T.int_MOST_BYTE)) (nomark _)))) (fun _ _ _ _ _ => (pv 2))) (pe_lst pa_nil) (nomark _)) (pa_cons (pe_gint rfl (T.int_OUT_OF_RANGE_calls)) pa_nil))))
      (pss_cons (ps_expr (pe_ok (ok_ask T) (hr.mono (by decide)) rfl T.g_ask (L2.passes_call (L2.takes_of rfl rfl rfl rfl) fun _ _ _ _ h => h) (pa_cons (pe_and (pe_cmpR op_le (pe_callB call_len_seq rfl T.f_len boot_len (pa_cons (pv 1) pa_nil)) (pe_gint rfl (T.int_MOST_LINES)) (nomark _)) (pe_one (pe_cmpR (op_eqD hu64) (pe_lc (tt := tTest (tOp (rI0 fun i j => V.bl (decide (j < i))) (tCB (rLn K) (tCons (tVar 3) tNil)) (tC (.int 80)))) (own := [("row", 3)]) (g := gName 3)  rfl sc_asked_text.nd (pi_list (pv 1)) (blkOk_by (N := N_asked_text) (sc := defScope s_asked_text) (by decide +kernel)) (fun _ _ _ _ _ => (pg_name (i := 3) sc_asked_text.nd rfl (Or.inl rfl))) (fun _ _ _ _ _ => (pts_one (pt_cmpR op_gt (pe_callB call_len_seq rfl T.f_len boot_len (pa_cons (pv 3) pa_nil)) (pe_gint rfl (T.int_MOST_LENGTH)) (nomark _)))) (fun _ _ _ _ _ => (pv 3))) (pe_lst pa_nil) (nomark _)))) (pa_cons (pe_gint rfl (T.int_OUT_OF_RANGE_calls)) pa_nil))))
      (pss_one (ps_ret (pv 1)))))), ?_⟩
  obtain ⟨_, rfl, text, RV, hz, hQ, hE⟩ := h
  obtain ⟨ta, rfl, hS⟩ := id RV
  refine ⟨_, rfl, _, rfl, text, RV, hz, fun rl H1 s1 ⟨vs, hrl, hP⟩ => ?_⟩
  refine ⟨_, rfl, _, rfl, ⟨_, s1.seq hS⟩, fun D hD => ?_⟩
  have lines : (Lrx9.linesOf text).length ≤ 1001 := by
    rw [Qu.lines_fold]
    have ll := Qu.ln_len text ([], [])
    rw [List.length_append]
    simp at ll
    split <;> simp <;> omega
  refine lc_keep (xs := vN text) isBig (fun x y _ => y = x) (fun _ _ _ _ _ h => h) hD (s1.seq hS) (by rw [vN_len]; exact Nat.le_trans hz (by decide)) (fun _ => rfl) ?_ ?_ ?_
  · intro x H' Q' hx s q
    obtain ⟨b, hb, rfl⟩ : ∃ b ∈ text, V.int (b : Int) = x := List.mem_map.mp hx
    exact ⟨_, rfl, _, _, rfl, rfl, _, rfl, q H' (Same.refl _)⟩
  · intro x H' Q' hx hp s ho q
    exact ⟨_, rfl, q _ H' (Same.refl _) rfl⟩
  · intro ys H2 s2 eD hp
    have ey := paired_eq hp
    rw [big_filter] at ey
    subst ey
    refine ⟨by show 0 ≤ sizeLine; decide, fun e he => ⟨_, _, ints_dp (SqL.of (Same.new he _ _ eD)), .lst (SqL.of upd_same) .nil, ints_shaped _, rfl, ?_⟩⟩
    rw [ints_nil, bytes_eq]
    have s3 : Same H1 (upd H2 e (.lst [])) := s2.to he
    generalize upd H2 e (.lst []) = H3 at *
    have hP3 : Paired (RowL H3) vs (Lrx9.linesOf text) := paired_imp (fun _ _ ⟨a, e1, e2⟩ => ⟨a, e1, s3 _ _ e2⟩) hP
    have hrl3 := s3 _ _ hrl
    have s03 := s1.trans s3
    refine ⟨_, _, rfl, Lrx9.isBytes text, -22, rfl, rfl, fun c1 => ?_, fun c1 => (hE (by rw [c1]; rfl)).then s03⟩
    refine ⟨_, rfl, _, _, rfl, .inl (SqL.of hrl3), _, _, rfl, rfl, _, rfl, ?_⟩
    rw [c1, Bool.true_and] at hQ hE
    rw [text_eq] at hQ hE
    have evs : (vs.length : Int) = ((Lrx9.linesOf text).length : Int) := by rw [paired_len hP]
    rw [evs]
    cases c2 : decide (((Lrx9.linesOf text).length : Int) ≤ 60) with
    | false =>
      rw [c2, Bool.false_and] at hE
      exact iteF ⟨_, _, rfl, false, -22, rfl, rfl, fun z => Bool.noConfusion z, fun _ => (hE rfl).then s03⟩
    | true =>
      rw [c2, Bool.true_and] at hQ hE
      refine iteT ⟨_, rfl, _, rfl, ⟨_, SqL.of hrl3⟩, fun D2 hD2 => ?_⟩
      refine lc_keep (xs := vs) (isLong H3) (fun x y _ => y = x) (fun _ _ _ _ _ h => h) hD2 (SqL.of hrl3) (by rw [paired_len hP]; exact Nat.le_trans lines (by decide)) (fun _ => rfl) ?_ ?_ ?_
      · intro x H' Q' hx s q
        obtain ⟨row, -, hrow⟩ := paired_left hP3 x hx
        have el := long_row hrow
        obtain ⟨ax, rfl, hax⟩ := id hrow
        refine ⟨_, rfl, _, _, rfl, .inl (SqL.of (s _ _ hax)), _, _, rfl, rfl, _, rfl, ?_⟩
        have e5 : decide ((80 : Int) < ((vN row).length : Int)) = isLong H3 (.ref ax) := by
          rw [el, vN_len]
          exact decide_eq_decide.mpr (by omega)
        rw [e5]
        exact q H' (Same.refl _)
      · intro x H' Q' hx hp s ho q
        exact ⟨_, rfl, q _ H' (Same.refl _) rfl⟩
      · intro ys H4 s4 eD4 hp4
        have ey := paired_eq hp4
        subst ey
        refine ⟨by show 0 ≤ sizeLine; decide, fun e he => ?_⟩
        have s5 : Same H3 (upd H4 e (.lst [])) := s4.to he
        have eD5 := Same.new (o := .lst []) he _ _ eD4
        have he5 : upd H4 e (.lst []) e = some (.lst []) := upd_same
        generalize upd H4 e (.lst []) = H5 at *
        have hP5 : Paired (RowL H5) (vs.filter (isLong H3)) ((Lrx9.linesOf text).filter fun r => decide (80 < r.length)) := paired_imp (fun _ _ ⟨a, e1, e2⟩ => ⟨a, e1, s5 _ _ e2⟩) (long_filter hP3)
        refine ⟨_, _, .lst (SqL.of eD5) (rows_dp hP5), .lst (SqL.of he5) .nil, rows_shaped _, rfl, ?_⟩
        rw [rows_nil]
        refine ⟨_, _, rfl, _, -22, rfl, rfl, fun c3 => ?_, fun c3 => (hE c3).then (s03.trans s5)⟩
        exact ⟨_, rfl, hQ c3 rl H5 (s03.trans s5) ⟨vs, s5 _ _ hrl3, paired_imp (fun _ _ ⟨a, e1, e2⟩ => ⟨a, e1, s5 _ _ e2⟩) hP3⟩⟩
end Q
set_option Elab.async false
set_option linter.all false
set_option maxRecDepth 100000
set_option maxHeartbeats 4000000
namespace Q
open PySem PySem.Spec PyProof.Rows L2
def badByte (v : V) : Bool := match v with
  | .int i => decide (255 < i) || decide (i = 10)
  | _ => false
theorem bad_filter (text : List Nat) : (vN text).filter badByte = vN (text.filter fun b => decide (255 < b) || decide (b = 10)) := by
  unfold vN
  rw [List.filter_map]
  congr 1
  refine List.filter_congr fun b _ => ?_
  show (decide ((255 : Int) < (b : Int)) || decide ((b : Int) = 10)) = _
  congr 1
  · exact decide_eq_decide.mpr (by omega)
  · exact decide_eq_decide.mpr (by omega)
def lineOk (row : List Nat) : Bool := decide (row.length ≤ 80) && decide (row.filter (fun b => decide (255 < b) || decide (b = 10)) = [])
theorem line_ok (row : List Nat) : lineOk row = !decide (Lrx9.isBytes row = false ∨ Lrx9.maxLine < row.length ∨ row.contains 10) := by
  unfold lineOk
  rw [Bool.eq_iff_iff, Bool.and_eq_true, decide_eq_true_iff, decide_eq_true_iff, List.filter_eq_nil_iff, Bool.not_eq_true', decide_eq_false_iff_not]
  constructor
  · rintro ⟨h1, h2⟩ (h | h | h)
    · rw [← bytes_eq, decide_eq_false_iff_not] at h
      refine h (List.filter_eq_nil_iff.mpr fun b hb z => h2 b hb ?_)
      rw [z, Bool.true_or]
    · simp only [Lrx9.maxLine] at h
      omega
    · have := List.contains_iff_mem.mp h
      exact h2 10 this (by simp)
  · intro h
    refine ⟨?_, fun b hb z => ?_⟩
    · by_cases c : row.length ≤ 80
      · exact c
      · exact absurd (.inr (.inl (by simp only [Lrx9.maxLine]; omega))) h
    · rcases Bool.or_eq_true_iff.mp z with z | z
      · refine h (.inl ?_)
        rw [← bytes_eq, decide_eq_false_iff_not]
        intro e
        exact List.filter_eq_nil_iff.mp e b hb z
      · have : b = 10 := of_decide_eq_true z
        subst this
        exact h (.inr (.inr (List.contains_iff_mem.mpr hb)))
def sp_ask_line (K : PySem.W.Frag) : Sp := sp1 fun a H Q E => ∃ row, RowV K H a row ∧ row.length ≤ 1000 ∧ (lineOk row = true → ∀ H', Same H H' → Q .non H') ∧ (lineOk row = false → RefS K H E [-22])
theorem ok_ask_line {w : World} {K : PySem.W.Frag} {mg : Str → Option Value} {base : Heap} (T : Txt w K mg) : OKF w K mg base (L2.CX prog w) 4 d_ask_line ["row"] (sp_ask_line K) := by
  refine okf_mk (k := 3) T 78 rfl sc_ask_line rfl rfl (fun _ _ _ _ _ _ us hl => match us, hl with | [_], _ => rfl) sp1_len (fun f cdv A outer s H vs Q E hr h => ?_)
  have hu := hu_of hr
  have hu64 := hr.units
  refine ⟨_, (pss_one (ps_expr (pe_ok (ok_ask T) (hr.mono (by decide)) rfl T.g_ask (L2.passes_call (L2.takes_of rfl rfl rfl rfl) fun _ _ _ _ h => h) (pa_cons (pe_and (pe_cmpR op_le (pe_callB call_len_seq rfl T.f_len boot_len (pa_cons (pv 0) pa_nil)) (pe_gint rfl (T.int_MOST_LENGTH)) (nomark _)) (pe_one (pe_cmpR (op_eqD hu64) (pe_lc (own := [("byte", 1)]) (g := gName 1)  rfl sc_ask_line.nd (pi_list (pv 0)) (blkOk_by (N := N_ask_line) (sc := defScope s_ask_line) (by decide +kernel)) (fun _ _ _ _ _ => (pg_name (i := 1) sc_ask_line.nd rfl (Or.inl rfl))) (fun _ _ _ _ _ => (pts_one (PW.pt (pw_or (pt_cmpR op_gt (pv 1) (pe_gint rfl (T.int_MOST_BYTE)) (nomark _)) (pw_or1 (pt_cmpR op_eq (pv 1) (pe_gint rfl (T.int_FEED)) (nomark _))))))) (fun _ _ _ _ _ => (pv 1))) (pe_lst pa_nil) (nomark _)))) (pa_cons (pe_gint rfl (T.int_OUT_OF_RANGE_calls)) pa_nil))))), ?_⟩
  obtain ⟨_, rfl, row, RV, hz, hQ, hE⟩ := h
  obtain ⟨ra, rfl, hS⟩ := id RV
  refine ⟨_, rfl, _, _, rfl, .inl hS, _, _, rfl, rfl, _, rfl, ?_⟩
  rw [vN_len]
  unfold lineOk at hQ hE
  have e80 : decide ((row.length : Int) ≤ 80) = decide (row.length ≤ 80) := decide_eq_decide.mpr (by omega)
  rw [e80]
  cases c : decide (row.length ≤ 80) with
  | false =>
    rw [c, Bool.false_and] at hE
    exact iteF ⟨_, _, rfl, false, -22, rfl, rfl, fun z => Bool.noConfusion z, fun _ => hE rfl⟩
  | true =>
    rw [c, Bool.true_and] at hQ hE
    refine iteT ⟨_, rfl, _, rfl, ⟨_, hS⟩, fun D hD => ?_⟩
    refine lc_keep (xs := vN row) badByte (fun x y _ => y = x) (fun _ _ _ _ _ h => h) hD hS (by rw [vN_len]; exact Nat.le_trans hz (by decide)) (fun _ => rfl) ?_ ?_ ?_
    · intro x H' Q' hx s q
      obtain ⟨b, hb, rfl⟩ : ∃ b ∈ row, V.int (b : Int) = x := List.mem_map.mp hx
      refine ⟨_, rfl, _, _, rfl, rfl, _, rfl, ?_⟩
      have eb : badByte (.int (b : Int)) = (decide ((255 : Int) < (b : Int)) || decide ((b : Int) = 10)) := rfl
      rw [eb] at q
      revert q
      cases decide ((255 : Int) < (b : Int)) with
      | true => intro q; exact iteT (q H' (Same.refl _))
      | false =>
        intro q
        refine iteF ⟨_, rfl, rfl, _, rfl, ?_⟩
        have e10 : decide (V.int (b : Int) = V.int 10) = decide ((b : Int) = 10) := decide_eq_decide.mpr ⟨fun z => by injection z, fun z => by rw [z]⟩
        rw [e10]
        exact q H' (Same.refl _)
    · intro x H' Q' hx hp s ho q
      exact ⟨_, rfl, q _ H' (Same.refl _) rfl⟩
    · intro ys H2 s2 eD hp
      have ey := paired_eq hp
      rw [bad_filter] at ey
      subst ey
      refine ⟨by show 0 ≤ sizeLine; decide, fun e he => ⟨_, _, ints_dp (SqL.of (Same.new he _ _ eD)), .lst (SqL.of upd_same) .nil, ints_shaped _, rfl, ?_⟩⟩
      rw [ints_nil]
      exact ⟨_, _, rfl, _, -22, rfl, rfl, fun z => hQ z _ (s2.to he), fun z => (hE z).then (s2.to he)⟩
/-! ### the model of a text -/
def GivesR (K : PySem.W.Frag) (H : Hp) (Q : VK) (E : XK) : Except (Nat × Lrx9.Fault) Lrx9.Model → Prop
  | .error (n, f) => RefS K H E [-20, (n : Int), (f.column : Int), (f.kind : Int)]
  | .ok M' => ∀ d' H', Same H H' → MdO K H' d' M' → MdNew d' H → Qu.Wf M' → Q (.ref d'.a) H'
def sp_result_of (K : PySem.W.Frag) : Sp := sp3 fun a b c H Q E => ∃ (d : MD) (M : Lrx9.Model) (text : List Nat) (once : Bool), a = .ref d.a ∧ RowV K H b text ∧ c = .bl once ∧ text.length ≤ 1000 ∧ MdO K H d M ∧ Qu.Wf M ∧
  ((Lrx9.isBytes text && Lrx9.isText text) = false → RefS K H E [-22]) ∧ ((Lrx9.isBytes text && Lrx9.isText text) = true → GivesR K H Q E (Lrx9.runLines (!once) 0 (Lrx9.linesOf text) M))
theorem ok_result_of {w : World} {K : PySem.W.Frag} {mg : Str → Option Value} {base : Heap} (T : Txt w K mg) : OKF w K mg base (L2.CX prog w) 13 d_result_of ["model", "text", "is_once"] (sp_result_of K) := by
  refine okf_mk (k := 12) T 79 rfl sc_result_of rfl rfl (fun _ _ _ _ _ _ us hl => match us, hl with | [_, _, _], _ => rfl) sp3_len (fun f cdv A outer s H vs Q E hr h => ?_)
  refine ⟨_, (pss_cons (ps_set (i := 3) sc_result_of.nd rfl (Or.inl rfl) (pe_ok (ok_asked_text T) (hr.mono (by decide)) rfl T.g_asked_text (L2.passes_call (L2.takes_of rfl rfl rfl rfl) fun _ _ _ _ h => h) (pa_cons (pv 1) pa_nil)))
      (pss_one (ps_try_asK (D := kT) (D' := kC) (i := 4) rfl rfl rfl sc_result_of.nd rfl rfl ⟨rfl, by decide, .inl T.g_TextError⟩ (fun hd => L2H.passesAt_of rfl hd) (gets_c.mpr (L2.takes_of rfl rfl rfl rfl)) (fun W pn xe tk _ => (pss_one (ps_ret (pe_okS (ok_done T) (hr.mono (by decide)) rfl T.g_done (fun σ => getAt tk σ) (pa_cons (pv 0) (pa_cons (pv 3) (pa_cons (pv 2) pa_nil)))))))
      (fun k a oe cls d pn xe hz hf hpn tkS => (pss_one (ps_raiseC (hotT_of hz hf hpn) tkS (pmkW (okw_Refused_init T) T.o_Refused.1 T.m_Refused.at_ T.ty_Refused (L2H.roomH_mark (hr.mono (by decide)) _) List.mem_cons_self pass0 rfl T.g_Refused (pa_cons (pe_lst (pa_cons (pe_gint rfl (T.int_TEXT_ERROR)) (pa_cons (PE.nox (pe_xf T.o_TextError.2 T.n_TextError_line (kT.cl _ _ _ _ hz) hf (pv 4))) (pa_cons (PE.nox (pe_xf T.o_TextError.2 T.n_TextError_column (kT.cl _ _ _ _ hz) hf (pv 4))) (pa_cons (PE.nox (pe_xf T.o_TextError.2 T.n_TextError_kind (kT.cl _ _ _ _ hz) hf (pv 4))) pa_nil))))) pa_nil)))))))), ?_⟩
  obtain ⟨_, _, _, rfl, d, M, text, once, rfl, RV, rfl, hz, MO, wf, hE, hQ⟩ := h
  refine ⟨_, rfl, _, rfl, text, RV, hz, fun c rl H1 s1 rv => ?_, hE⟩
  have ok := Bool.and_eq_true_iff.mp c
  have rows80 : ∀ r ∈ Lrx9.linesOf text, r.length ≤ 80 := fun r hr => by
    have h2 := ok.2
    unfold Lrx9.isText at h2
    exact of_decide_eq_true (List.all_eq_true.mp (Bool.and_eq_true_iff.mp h2).2 r hr)
  have hQ := hQ c
  refine ⟨_, rfl, _, rfl, _, rfl, _, _, _, rfl, d, M, rl, Lrx9.linesOf text, once, rfl, rfl, rfl, rv.v, rows80, MO.same s1, wf, ?_⟩
  cases hr : Lrx9.runLines (!once) 0 (Lrx9.linesOf text) M with
  | error y =>
    obtain ⟨n, f⟩ := y
    rw [hr] at hQ
    intro dx H2 s2 hx2
    refine ⟨T.exm_TextError_TextError, fun a ha => ?_⟩
    refine ⟨_, rfl, rfl, rfl, _, _, _, rfl, hx2, rfl, _, rfl, rfl, rfl, _, _, _, rfl, hx2, rfl, _, rfl, rfl, rfl, _, _, _, rfl, hx2, rfl, by show 4 ≤ sizeLine; decide, fun b hb => ⟨Nat.le_of_ble_eq_true rfl, fun p hp => ?_⟩⟩
    refine ⟨_, _, rfl, p, rfl, upd_same, fun dd hdd ne => ⟨rfl, leave1 (fun d2 hd2 => ?_) hp hdd ne⟩⟩
    have nd : b ≠ d2 := by rintro rfl; rw [upd_same] at hd2; cases hd2
    refine (show RefS K H E _ from hQ) d2 b _ (((s1.trans s2).to hb).to hd2) upd_same ?_
    rw [upd_ne nd, upd_same]
    rfl
  | ok M' =>
    rw [hr] at hQ
    intro d' H2 s2 MO2 nw wf2
    exact hQ d' H2 (s1.trans s2) MO2 (fun b hb => s1.no b (nw b hb)) wf2
def sp_coded (K : PySem.W.Frag) : Sp := sp1 fun a H Q _ => ∃ t : List Nat, a = .str (sT t) ∧ t.length ≤ 1000000 ∧ ∀ b H', Same H H' → H b = none → H' b = some (.lst (vN (t.length :: t))) → Q (.ref b) H'
theorem ok_coded {w : World} {K : PySem.W.Frag} {mg : Str → Option Value} {base : Heap} (T : Txt w K mg) : OKF w K mg base (CX0) 1 d_coded ["word"] (sp_coded K) := by
  refine okf_mk (k := 0) T 80 rfl sc_coded rfl rfl (fun _ _ _ _ _ _ us hl => match us, hl with | [_], _ => rfl) sp1_len (fun f cdv A outer s H vs Q E hr h => ?_)
  refine ⟨_, (PSs.nox (pss_one (ps_ret (pe_op op_cat (pe_lst (pa_cons (pe_callB call_len_str rfl T.f_len boot_len (pa_cons (pv 0) pa_nil)) pa_nil)) (pe_lc (own := [("sign", 1)]) (g := gName 1) (tt := tYes) rfl sc_coded.nd (pi_str (pv 0)) (blkOk_by (N := N_coded) (sc := defScope s_coded) (by decide +kernel)) (fun _ _ _ _ _ => (pg_name (i := 1) sc_coded.nd rfl (Or.inl rfl))) (fun _ _ _ _ _ => pts_nil) (fun _ _ _ _ _ => (pe_callB call_ord rfl T.f_ord (by decide +kernel) (pa_cons (pv 1) pa_nil)))))))), ?_⟩
  obtain ⟨_, rfl, t, rfl, hz, hQ⟩ := h
  have hl : (sT t).length ≤ sizeLine := by rw [sT_len]; exact Nat.le_trans hz (by decide)
  refine ⟨_, rfl, _, rfl, hl, by show 1 ≤ sizeLine; decide, fun p hp => ⟨_, rfl, _, rfl, fun D hD => ?_⟩⟩
  refine lc_it walk_str (fun i H' => Same (upd H p (.lst [V.int ((sT t).length : Nat)])) H' ∧ H' D = some (.lst (vN (t.take i)))) ⟨Same.new hD, upd_same⟩ (fun _ _ _ _ => trivial) ?_ ?_
  · rintro i x H' H2 hi ⟨s1, e1⟩ ⟨e2, c, hc, ex⟩
    subst e2
    subst ex
    have il : i < t.length := hi
    have hc2 : t[i]? = some c := by rw [← hc]; show _ = t.toArray[i]?; simp
    refine ⟨rfl, _, rfl, _, rfl, rfl, ?_⟩
    refine ⟨vN (t.take i), e1, ?_, s1.put hD, ?_⟩
    · rw [vN_len, List.length_take]
      have : (1000000 : Nat) < sizeLine := by decide
      omega
    · rw [upd_same, take_next hc2]
      unfold vN
      rw [List.map_append]
      rfl
  · rintro H' ⟨s1, e1⟩
    rw [show (sT t).cps.size = t.length from rfl, List.take_length] at e1
    refine ⟨p, D, _, _, rfl, rfl, s1 _ _ upd_same, e1, ?_, fun b hb => ?_⟩
    · rw [vN_len]
      have : (1000001 : Nat) ≤ sizeLine := by decide
      show 1 + t.length ≤ _
      omega
    · have sx : Same H H' := (Same.new hp).trans s1
      refine hQ b _ (sx.to hb) (sx.no b hb) ?_
      rw [upd_same, sT_len]
      rfl
end Q
set_option Elab.async false
set_option linter.all false
set_option maxRecDepth 100000
set_option maxHeartbeats 4000000
namespace Q
open PySem PySem.Spec PyProof.Rows L2
/-! ### what lies at a place -/
theorem code_inj {l : List Lrx9.Entry} (so : l.Pairwise fun a b => Qu.code a < Qu.code b) : ∀ {x y}, x ∈ l → y ∈ l → Qu.code x = Qu.code y → x = y := by
  induction so with
  | nil => intro x y hx; cases hx
  | cons h _ ih =>
    intro x y hx hy e
    rcases List.mem_cons.mp hx with rfl | hx
    · rcases List.mem_cons.mp hy with rfl | hy
      · rfl
      · have := h y hy
        omega
    · rcases List.mem_cons.mp hy with ey | hy
      · have := h x hx
        rw [← ey] at this
        omega
      · exact ih hx hy e
theorem value_in_ {l : List Lrx9.Entry} {e x : Lrx9.Entry} (so : l.Pairwise fun a b => Qu.code a < Qu.code b) (sm : ∀ y ∈ l, Qu.Sm y) (he : Qu.Sm e) (hx : x ∈ l) (h : Lrx9.samePlace x e = true) : Lrx9.valueAt l e.station e.class_ e.toStation e.toClass = x.value := by
  unfold Lrx9.valueAt
  cases q : l.find? (fun y => Lrx9.samePlace y ⟨e.station, e.class_, e.toStation, e.toClass, Lrx1.zero⟩) with
  | none => exact absurd h (List.find?_eq_none.mp q x hx)
  | some y =>
    have hy := List.mem_of_find?_eq_some q
    have sy : Lrx9.samePlace y e = true := by
      have := List.find?_some q
      exact this
    have e1 := (Qu.same_iff (sm x hx) he).mp h
    have e2 := (Qu.same_iff (sm y hy) he).mp sy
    rw [code_inj so hx hy (e1.trans e2.symm)]
    rfl
theorem value_no {l : List Lrx9.Entry} {e : Lrx9.Entry} (h : ∀ x ∈ l, Lrx9.samePlace x e = false) : Lrx9.valueAt l e.station e.class_ e.toStation e.toClass = Lrx1.zero := by
  unfold Lrx9.valueAt
  rw [show l.find? (fun y => Lrx9.samePlace y ⟨e.station, e.class_, e.toStation, e.toClass, Lrx1.zero⟩) = none from List.find?_eq_none.mpr fun x hx hy => Bool.false_ne_true ((h x hx).symm.trans hy)]
  rfl
section
variable {K : PySem.W.Frag} {w : World} {key : Lrx9.Entry → List Key} {P : Lrx9.Entry → Prop}
theorem pair_val {F : List Key × V → Lrx9.Entry → Prop} (hF : ∀ kv e, F kv e → kv.1 = key e) (ok : KeyOk w key P) (sm : ∀ e, P e → Qu.Sm e) {e : Lrx9.Entry} (he : P e) : ∀ {kvs : List (List Key × V)} {es : List Lrx9.Entry}, Paired F kvs es → (∀ x ∈ es, P x) →
    (∃ kv x, valV kvs (key e) = some kv.2 ∧ x ∈ es ∧ Lrx9.samePlace x e = true ∧ F kv x) ∨ (valV kvs (key e) = none ∧ ∀ x ∈ es, Lrx9.samePlace x e = false)
  | _, _, .nil, _ => .inr ⟨rfl, fun x hx => by cases hx⟩
  | kv :: kvs, x :: es, .cons h r, hp => by
    have iff := ok.iff sm (hp x List.mem_cons_self) he
    rw [← hF _ _ h] at iff
    by_cases c : kv.1 = key e
    · exact .inl ⟨kv, x, valV_pos c, List.mem_cons_self, iff.mp c, h⟩
    · have c' : Lrx9.samePlace x e = false := by
        cases q : Lrx9.samePlace x e with
        | false => rfl
        | true => exact absurd (iff.mpr q) c
      rw [valV_neg c]
      rcases pair_val hF ok sm he r fun y hy => hp y (List.mem_cons_of_mem _ hy) with ⟨kv2, y, h1, h2, h3, h4⟩ | ⟨h1, h2⟩
      · exact .inl ⟨kv2, y, h1, List.mem_cons_of_mem _ h2, h3, h4⟩
      · refine .inr ⟨h1, fun y hy => ?_⟩
        rcases List.mem_cons.mp hy with rfl | hy
        · exact c'
        · exact h2 y hy
/-- d.get(place, z) -/
theorem tab_get {H : Hp} {t b : Addr} {l : List Lrx9.Entry} {e : Lrx9.Entry} {z : V} (h : TabV K H key t l) (ok : KeyOk w key P) (sm : ∀ e, P e → Qu.Sm e) (en : Qu.EnOk P l) (he : P e) (hb : H b = some (.tup ((key e).map kV))) (hz : FrV K H z Lrx1.zero) :
    ∃ o, DGet H t (.ref b) o ∧ FrV K H (o.getD z) (Lrx9.valueAt l e.station e.class_ e.toStation e.toClass) ∧ (o = none ↔ Lrx9.valueAt l e.station e.class_ e.toStation e.toClass = Lrx1.zero) := by
  obtain ⟨kvs, es, h1, h2, h3⟩ := h
  refine ⟨valV kvs (key e), .inr ⟨kvs, key e, b, .inl h1, rfl, hb, rfl⟩, ?_⟩
  rcases pair_val (fun _ _ z => z.1) ok sm he h2 (fun x hx => en.rg x (h3.subset hx)) with ⟨kv, x, e1, e2, e3, e4⟩ | ⟨e1, e2⟩
  · have ev := value_in_ en.so (fun y hy => sm y (en.rg y hy)) (sm e he) (h3.subset e2) e3
    rw [e1, ev]
    exact ⟨e4.2, ⟨fun z => (by cases z), fun z => absurd z (en.vs x (h3.subset e2)).nz⟩⟩
  · have ev := value_no (l := l) (e := e) fun x hx => e2 x (h3.symm.subset hx)
    rw [e1, ev]
    exact ⟨hz, ⟨fun _ => rfl, fun _ => rfl⟩⟩
end
end Q
set_option Elab.async false
set_option linter.all false
set_option maxRecDepth 100000
set_option maxHeartbeats 4000000
namespace Q
open PySem PySem.Spec PyProof.Rows L2
/-! ### deeds -/
abbrev cDesk (K : PySem.W.Frag) : Addr := He.ga K "Desk"
def res (r : Lrx9.Result) : List Int := r.num :: r.nums
structure DskM (K : PySem.W.Frag) (H : Hp) (dk dx : Addr) (d : MD) (M : Lrx9.Model) : Prop where
  ob : H dk = some (.ins (cDesk K) dx [("model", .ref d.a)])
  mo : MdO K H d M
  wf : Qu.Wf M
theorem DskM.same {K : PySem.W.Frag} {H H' : Hp} {dk dx : Addr} {d : MD} {M : Lrx9.Model} (h : DskM K H dk dx d M) (e : Same H H') : DskM K H' dk dx d M := ⟨e _ _ h.ob, h.mo.same e, h.wf⟩
def Ans (K : PySem.W.Frag) (H : Hp) (Q : VK) (E : XK) (ans : List Int) : Prop := (∀ b H', Same H H' → H b = none → H' b = some (.lst (vI ans)) → Q (.ref b) H') ∧ RefS K H E ans
theorem Ans.then {K : PySem.W.Frag} {H H1 : Hp} {Q : VK} {E : XK} {ans : List Int} (h : Ans K H Q E ans) (s : Same H H1) : Ans K H1 Q E ans :=
  ⟨fun b H' s' n e => h.1 b H' (s.trans s') (s.no b n) e, h.2.then s⟩
def DeedR (n : Nat) (mk : List Nat → List Nat → Lrx9.Call) (K : PySem.W.Frag) : Sp := sp3 fun a b c H Q E => ∃ (dk dx : Addr) (d : MD) (M : Lrx9.Model) (nums row : List Nat), a = .ref dk ∧ RowV K H b nums ∧ nums.length = n ∧ RowV K H c row ∧ row.length ≤ 1000 ∧ DskM K H dk dx d M ∧
  Ans K H Q E (res (Lrx9.step (some M) (mk nums row)).2)
theorem vI_vN (l : List Nat) : vI (Lrx9.toInts l) = vN l := by
  unfold vI vN Lrx9.toInts
  rw [List.map_map]
  rfl
theorem res_list (l : List Nat) : vI (res (Lrx9.listResult l)) = vN (l.length :: l) := by
  unfold res Lrx9.listResult
  show _ :: vI (Lrx9.toInts l) = _
  rw [vI_vN]
  rfl
theorem words_len {l : List (List Nat)} : (words l).length = l.length := List.length_map ..
theorem words_at {l : List (List Nat)} {k : Nat} {t : List Nat} (h : l[k]? = some t) : atI (words l) (k : Int) = some (.str (sT t)) := atI_nat (by
  unfold words
  rw [List.getElem?_map, h]
  rfl)
theorem nm_small {n : List Nat} (h : Qu.NmOk n) : n.length ≤ 1000000 := by
  have := h.len
  omega
theorem dec_lt {i n : Nat} : decide ((i : Int) < (n : Int)) = decide (i < n) := decide_eq_decide.mpr (by omega)
def sp_class_name (K : PySem.W.Frag) : Sp := DeedR 1 (fun n _ => .className (n.getD 0 0)) K
theorem ok_class_name {w : World} {K : PySem.W.Frag} {mg : Str → Option Value} {base : Heap} (T : Txt w K mg) : OKF w K mg base (L2.CX prog w) 4 d_class_name ["desk", "numbers", "row"] (sp_class_name K) := by
  refine okf_mk (k := 3) T 90 rfl sc_class_name rfl rfl (fun _ _ _ _ _ _ us hl => match us, hl with | [_, _, _], _ => rfl) sp3_len (fun f cdv A outer s H vs Q E hr h => ?_)
  refine ⟨_, (pss_cons (ps_expr (pe_ok (ok_ask T) (hr.mono (by decide)) rfl T.g_ask (L2.passes_call (L2.takes_of rfl rfl rfl rfl) fun _ _ _ _ h => h) (pa_cons (pe_cmpR op_lt (pe_ix ix_list (pv 1) pe_int (fun _ _ => rfl)) (pe_callB call_len_seq rfl T.f_len boot_len (pa_cons (pe_fld (pe_fld (pv 0) rfl) rfl) pa_nil)) (nomark _)) (pa_cons (pe_gint rfl (T.int_NOT_THERE)) pa_nil))))
      (pss_one (ps_ret (pe_ok (ok_coded T) (hr.mono (by decide)) rfl T.g_coded pass0 (pa_cons (pe_ix ix_list (pe_fld (pe_fld (pv 0) rfl) rfl) (pe_ix ix_list (pv 1) pe_int (fun _ _ => rfl)) (fun _ _ => rfl)) pa_nil))))), ?_⟩
  obtain ⟨_, _, _, rfl, dk, dx, d, M, nums, row, rfl, Nv, hn, Rv, hz, D, A⟩ := h
  obtain ⟨na, rfl, nS⟩ := id Nv
  obtain ⟨i, rfl⟩ : ∃ i, nums = [i] := List.length_eq_one_iff.mp hn
  refine ⟨_, rfl, _, _, _, _, rfl, rfl, nS, at0, _, rfl, _, _, _, _, _, rfl, D.ob, T.c_Desk, T.n_Desk_model, rfl, _, _, _, _, _, rfl, D.mo.ob, T.c_Model, T.n_Model_classes, rfl, _, _, rfl, .inl (SqL.of D.mo.cl), _, _, rfl, rfl, ?_⟩
  refine ⟨_, _, rfl, _, -2, rfl, rfl, fun c => ?_, fun c => ?_⟩
  · have hi := of_decide_eq_true c
    rw [words_len] at hi
    have hi : i < M.classes.length := by omega
    have e := List.getElem?_eq_getElem hi
    refine ⟨_, rfl, _, _, _, _, _, rfl, D.ob, T.c_Desk, T.n_Desk_model, rfl, _, _, _, _, _, rfl, D.mo.ob, T.c_Model, T.n_Model_classes, rfl, _, rfl, _, _, _, _, rfl, rfl, nS, at0, _, _, _, _, rfl, rfl, SqL.of D.mo.cl, words_at e, _, rfl, _, rfl, ?_, fun b H' s n eb => A.1 b H' s n ?_⟩
    · exact nm_small (D.wf.cl _ (List.getElem_mem hi))
    · rw [eb]
      show _ = some (HO.lst (vI (res (match M.classes[i]? with | none => Lrx9.error (-2) | some name => Lrx9.listResult name))))
      rw [e, res_list]
  · have hi := of_decide_eq_false c
    rw [words_len] at hi
    have e : M.classes[i]? = none := List.getElem?_eq_none (by omega)
    have A2 := A.2
    rw [show res (Lrx9.step (some M) (.className ([i].getD 0 0))).2 = res (match M.classes[i]? with | none => Lrx9.error (-2) | some name => Lrx9.listResult name) from rfl, e] at A2
    exact A2
def sp_asked_place (K : PySem.W.Frag) : Sp := sp2 fun a b H Q E => ∃ (d : MD) (M : Lrx9.Model) (i r : Nat), a = .ref d.a ∧ RowV K H b [i, r] ∧ MdO K H d M ∧
  (Lrx9.isPlace M i r = true → ∀ p H', Same H H' → H p = none → H' p = some (.tup [.int (i : Int), .int (r : Int)]) → Q (.ref p) H') ∧ (Lrx9.isPlace M i r = false → RefS K H E [-2])
theorem row_at {l : List Nat} {k b : Nat} (h : l[k]? = some b) : atI (vN l) (k : Int) = some (.int (b : Int)) := vN_at h
theorem ok_asked_place {w : World} {K : PySem.W.Frag} {mg : Str → Option Value} {base : Heap} (T : Txt w K mg) : OKF w K mg base (L2.CX prog w) 4 d_asked_place ["model", "numbers"] (sp_asked_place K) := by
  refine okf_mk (k := 3) T 95 rfl sc_asked_place rfl rfl (fun _ _ _ _ _ _ us hl => match us, hl with | [_, _], _ => rfl) sp2_len (fun f cdv A outer s H vs Q E hr h => ?_)
  refine ⟨_, (pss_cons (ps_expr (pe_ok (ok_ask T) (hr.mono (by decide)) rfl T.g_ask (L2.passes_call (L2.takes_of rfl rfl rfl rfl) fun _ _ _ _ h => h) (pa_cons (pe_and (pe_cmpR op_lt (pe_ix ix_list (pv 1) pe_int (fun _ _ => rfl)) (pe_callB call_len_seq rfl T.f_len boot_len (pa_cons (pe_fld (pv 0) rfl) pa_nil)) (nomark _)) (pe_one (pe_cmpR op_lt (pe_ix ix_list (pv 1) pe_int (fun _ _ => rfl)) (pe_callB call_len_seq rfl T.f_len boot_len (pa_cons (pe_fld (pv 0) rfl) pa_nil)) (nomark _)))) (pa_cons (pe_gint rfl (T.int_NOT_THERE)) pa_nil))))
      (pss_one (ps_ret (pe_tup (pa_cons (pe_ix ix_list (pv 1) pe_int (fun _ _ => rfl)) (pa_cons (pe_ix ix_list (pv 1) pe_int (fun _ _ => rfl)) pa_nil)))))), ?_⟩
  obtain ⟨_, _, rfl, d, M, i, r, rfl, Nv, MO, hQ, hE⟩ := h
  obtain ⟨na, rfl, nS⟩ := id Nv
  obtain ⟨vst, hst, pst⟩ := id MO.st
  unfold Lrx9.isPlace at hQ hE
  refine ⟨_, rfl, _, _, _, _, rfl, rfl, nS, at0, _, rfl, _, _, _, _, _, rfl, MO.ob, T.c_Model, T.n_Model_stations, rfl, _, _, rfl, .inl (SqL.of hst), _, _, rfl, rfl, _, rfl, ?_⟩
  have e1 : decide ((i : Int) < (vst.length : Int)) = decide (i < M.stations.length) := by rw [paired_len pst]; exact dec_lt
  rw [e1]
  cases c1 : decide (i < M.stations.length) with
  | false =>
    rw [c1, Bool.false_and] at hE
    exact iteF ⟨_, _, rfl, false, -2, rfl, rfl, fun z => Bool.noConfusion z, fun _ => hE rfl⟩
  | true =>
    rw [c1, Bool.true_and] at hQ hE
    refine iteT ⟨_, rfl, _, _, _, _, rfl, rfl, nS, at1, _, rfl, _, _, _, _, _, rfl, MO.ob, T.c_Model, T.n_Model_classes, rfl, _, _, rfl, .inl (SqL.of MO.cl), _, _, rfl, rfl, ?_⟩
    have e2 : decide ((r : Int) < ((words M.classes).length : Int)) = decide (r < M.classes.length) := by rw [words_len]; exact dec_lt
    refine ⟨_, _, rfl, _, -2, rfl, rfl, fun c2 => ?_, fun c2 => hE (e2.symm.trans c2)⟩
    refine ⟨_, rfl, _, _, _, _, rfl, rfl, nS, at0, _, rfl, _, _, _, _, rfl, rfl, nS, at1, by show 2 ≤ sizeLine; decide, fun p hp => ?_⟩
    exact hQ (e2.symm.trans c2) p _ (Same.new hp) hp upd_same
end Q
set_option Elab.async false
set_option linter.all false
set_option maxRecDepth 100000
set_option maxHeartbeats 4000000
namespace Q
open PySem PySem.Spec PyProof.Rows L2
theorem len_two {l : List Nat} (h : l.length = 2) : ∃ i r, l = [i, r] := match l, h with
  | [i, r], _ => ⟨i, r, rfl⟩
theorem len_four {l : List Nat} (h : l.length = 4) : ∃ i r j s, l = [i, r, j, s] := match l, h with
  | [i, r, j, s], _ => ⟨i, r, j, s, rfl⟩
theorem place_in {M : Lrx9.Model} {i r : Nat} (h : Lrx9.isPlace M i r = true) : Qu.PlR M.stations.length M.classes.length ⟨i, r, 0, 0, Lrx1.zero⟩ := by
  have h := Bool.and_eq_true_iff.mp h
  exact ⟨of_decide_eq_true h.1, of_decide_eq_true h.2, rfl, rfl⟩
def sp_service (K : PySem.W.Frag) : Sp := DeedR 2 (fun n _ => .service (n.getD 0 0) (n.getD 1 0)) K
theorem ok_service {w : World} {K : PySem.W.Frag} {mg : Str → Option Value} {base : Heap} (T : Txt w K mg) : OKF w K mg base (L2.CX prog w) 5 d_service ["desk", "numbers", "row"] (sp_service K) := by
  refine okf_mk (k := 4) T 96 rfl sc_service rfl rfl (fun _ _ _ _ _ _ us hl => match us, hl with | [_, _, _], _ => rfl) sp3_len (fun f cdv A outer s H vs Q E hr h => ?_)
  have hu := hu_of hr
  have hu64 := hr.units
  refine ⟨_, (pss_one (ps_ret (pe_op op_cat (pe_lst (pa_cons pe_int pa_nil)) (pe_callTy call_list_of rfl T.f_list (by decide +kernel) (pa_cons (pe_dget2 hu (pe_fld (pe_fld (pv 0) rfl) rfl) (pe_ok (ok_asked_place T) (hr.mono (by decide)) rfl T.g_asked_place (L2.passes_call (L2.takes_of rfl rfl rfl rfl) fun _ _ _ _ h => h) (pa_cons (pe_fld (pv 0) rfl) (pa_cons (pv 1) pa_nil))) (pe_gref rfl (T.g_NOUGHT)) ⟨rfl, rfl, rfl, rfl⟩) pa_nil))))), ?_⟩
  obtain ⟨_, _, _, rfl, dk, dx, d, M, nums, row, rfl, Nv, hn, Rv, hz, D, A⟩ := h
  obtain ⟨i, r, rfl⟩ : ∃ i r, nums = [i, r] := len_two hn
  obtain ⟨kvs, es, hk, -⟩ := id D.mo.sv
  have A := show Ans K H Q E (res (if Lrx9.isPlace M i r = false then Lrx9.error (-2) else Lrx9.fractionResult (Lrx9.valueAt M.services i r 0 0))) from A
  refine ⟨by show 1 ≤ sizeLine; decide, fun p hp => ⟨_, rfl, _, _, _, _, _, rfl, (D.same (Same.new hp)).ob, T.c_Desk, T.n_Desk_model, rfl, _, _, _, _, _, rfl, (D.same (Same.new hp)).mo.ob, T.c_Model, T.n_Model_services, rfl, _, rfl, .inr ⟨_, .inl (Same.new hp _ _ hk)⟩, _, rfl, _, _, _, _, _, rfl, (D.same (Same.new hp)).ob, T.c_Desk, T.n_Desk_model, rfl, _, rfl, _, _, rfl, d, M, i, r, rfl, Nv.same (Same.new hp), D.mo.same (Same.new hp), fun c pl H1 s1 np e1 => ?_, fun c => ?_⟩⟩
  · rw [if_neg (by rw [c]; exact Bool.noConfusion)] at A
    have s2 := (Same.new (o := .lst [.int 0]) hp).trans s1
    have en := D.wf.sv
    obtain ⟨o, g, ⟨fa, ef, hf⟩, -⟩ := tab_get (e := ⟨i, r, 0, 0, Lrx1.zero⟩) (z := .ref (He.ga K "NOUGHT")) ((D.same s2).mo.sv) (key2_ok (w := w) D.wf.nst D.wf.ncl) (fun e h => Qu.pl_sm h D.wf.nst D.wf.ncl) en (place_in c) e1 ⟨_, rfl, T.t_NOUGHT H1⟩
    refine ⟨o, g, ?_⟩
    rw [ef]
    refine ⟨_, _, rfl, .inr hf, fun l hl => ⟨p, l, _, _, rfl, rfl, Same.new hl _ _ (s1 _ _ upd_same), upd_same, by show 3 ≤ sizeLine; decide, fun b hb => ?_⟩⟩
    exact A.1 b _ ((s2.to hl).to hb) ((s2.to hl).no b hb) upd_same
  · rw [if_pos c] at A
    exact A.2.then (Same.new hp)
def sp_arrival (K : PySem.W.Frag) : Sp := DeedR 2 (fun n _ => .arrival (n.getD 0 0) (n.getD 1 0)) K
theorem ok_arrival {w : World} {K : PySem.W.Frag} {mg : Str → Option Value} {base : Heap} (T : Txt w K mg) : OKF w K mg base (L2.CX prog w) 5 d_arrival ["desk", "numbers", "row"] (sp_arrival K) := by
  refine okf_mk (k := 4) T 97 rfl sc_arrival rfl rfl (fun _ _ _ _ _ _ us hl => match us, hl with | [_, _, _], _ => rfl) sp3_len (fun f cdv A outer s H vs Q E hr h => ?_)
  have hu := hu_of hr
  have hu64 := hr.units
  refine ⟨_, (pss_one (ps_ret (pe_op op_cat (pe_lst (pa_cons pe_int pa_nil)) (pe_callTy call_list_of rfl T.f_list (by decide +kernel) (pa_cons (pe_dget2 hu (pe_fld (pe_fld (pv 0) rfl) rfl) (pe_ok (ok_asked_place T) (hr.mono (by decide)) rfl T.g_asked_place (L2.passes_call (L2.takes_of rfl rfl rfl rfl) fun _ _ _ _ h => h) (pa_cons (pe_fld (pv 0) rfl) (pa_cons (pv 1) pa_nil))) (pe_gref rfl (T.g_NOUGHT)) ⟨rfl, rfl, rfl, rfl⟩) pa_nil))))), ?_⟩
  obtain ⟨_, _, _, rfl, dk, dx, d, M, nums, row, rfl, Nv, hn, Rv, hz, D, A⟩ := h
  obtain ⟨i, r, rfl⟩ : ∃ i r, nums = [i, r] := len_two hn
  obtain ⟨kvs, es, hk, -⟩ := id D.mo.ar
  have A := show Ans K H Q E (res (if Lrx9.isPlace M i r = false then Lrx9.error (-2) else Lrx9.fractionResult (Lrx9.valueAt M.arrivals i r 0 0))) from A
  refine ⟨by show 1 ≤ sizeLine; decide, fun p hp => ⟨_, rfl, _, _, _, _, _, rfl, (D.same (Same.new hp)).ob, T.c_Desk, T.n_Desk_model, rfl, _, _, _, _, _, rfl, (D.same (Same.new hp)).mo.ob, T.c_Model, T.n_Model_arrivals, rfl, _, rfl, .inr ⟨_, .inl (Same.new hp _ _ hk)⟩, _, rfl, _, _, _, _, _, rfl, (D.same (Same.new hp)).ob, T.c_Desk, T.n_Desk_model, rfl, _, rfl, _, _, rfl, d, M, i, r, rfl, Nv.same (Same.new hp), D.mo.same (Same.new hp), fun c pl H1 s1 np e1 => ?_, fun c => ?_⟩⟩
  · rw [if_neg (by rw [c]; exact Bool.noConfusion)] at A
    have s2 := (Same.new (o := .lst [.int 0]) hp).trans s1
    have en := D.wf.ar
    obtain ⟨o, g, ⟨fa, ef, hf⟩, -⟩ := tab_get (e := ⟨i, r, 0, 0, Lrx1.zero⟩) (z := .ref (He.ga K "NOUGHT")) ((D.same s2).mo.ar) (key2_ok (w := w) D.wf.nst D.wf.ncl) (fun e h => Qu.pl_sm h D.wf.nst D.wf.ncl) en (place_in c) e1 ⟨_, rfl, T.t_NOUGHT H1⟩
    refine ⟨o, g, ?_⟩
    rw [ef]
    refine ⟨_, _, rfl, .inr hf, fun l hl => ⟨p, l, _, _, rfl, rfl, Same.new hl _ _ (s1 _ _ upd_same), upd_same, by show 3 ≤ sizeLine; decide, fun b hb => ?_⟩⟩
    exact A.1 b _ ((s2.to hl).to hb) ((s2.to hl).no b hb) upd_same
  · rw [if_pos c] at A
    exact A.2.then (Same.new hp)
def sp_leaving (K : PySem.W.Frag) : Sp := DeedR 2 (fun n _ => .leaving (n.getD 0 0) (n.getD 1 0)) K
theorem ok_leaving {w : World} {K : PySem.W.Frag} {mg : Str → Option Value} {base : Heap} (T : Txt w K mg) : OKF w K mg base (L2.CX prog w) 5 d_leaving ["desk", "numbers", "row"] (sp_leaving K) := by
  refine okf_mk (k := 4) T 99 rfl sc_leaving rfl rfl (fun _ _ _ _ _ _ us hl => match us, hl with | [_, _, _], _ => rfl) sp3_len (fun f cdv A outer s H vs Q E hr h => ?_)
  have hu := hu_of hr
  have hu64 := hr.units
  refine ⟨_, (pss_one (ps_ret (pe_op op_cat (pe_lst (pa_cons pe_int pa_nil)) (pe_callTy call_list_of rfl T.f_list (by decide +kernel) (pa_cons (pe_dget2 hu (pe_fld (pe_fld (pv 0) rfl) rfl) (pe_ok (ok_asked_place T) (hr.mono (by decide)) rfl T.g_asked_place (L2.passes_call (L2.takes_of rfl rfl rfl rfl) fun _ _ _ _ h => h) (pa_cons (pe_fld (pv 0) rfl) (pa_cons (pv 1) pa_nil))) (pe_gref rfl (T.g_NOUGHT)) ⟨rfl, rfl, rfl, rfl⟩) pa_nil))))), ?_⟩
  obtain ⟨_, _, _, rfl, dk, dx, d, M, nums, row, rfl, Nv, hn, Rv, hz, D, A⟩ := h
  obtain ⟨i, r, rfl⟩ : ∃ i r, nums = [i, r] := len_two hn
  obtain ⟨kvs, es, hk, -⟩ := id D.mo.le
  have A := show Ans K H Q E (res (if Lrx9.isPlace M i r = false then Lrx9.error (-2) else Lrx9.fractionResult (Lrx9.valueAt M.leaving i r 0 0))) from A
  refine ⟨by show 1 ≤ sizeLine; decide, fun p hp => ⟨_, rfl, _, _, _, _, _, rfl, (D.same (Same.new hp)).ob, T.c_Desk, T.n_Desk_model, rfl, _, _, _, _, _, rfl, (D.same (Same.new hp)).mo.ob, T.c_Model, T.n_Model_leaves, rfl, _, rfl, .inr ⟨_, .inl (Same.new hp _ _ hk)⟩, _, rfl, _, _, _, _, _, rfl, (D.same (Same.new hp)).ob, T.c_Desk, T.n_Desk_model, rfl, _, rfl, _, _, rfl, d, M, i, r, rfl, Nv.same (Same.new hp), D.mo.same (Same.new hp), fun c pl H1 s1 np e1 => ?_, fun c => ?_⟩⟩
  · rw [if_neg (by rw [c]; exact Bool.noConfusion)] at A
    have s2 := (Same.new (o := .lst [.int 0]) hp).trans s1
    have en := D.wf.le
    obtain ⟨o, g, ⟨fa, ef, hf⟩, -⟩ := tab_get (e := ⟨i, r, 0, 0, Lrx1.zero⟩) (z := .ref (He.ga K "NOUGHT")) ((D.same s2).mo.le) (key2_ok (w := w) D.wf.nst D.wf.ncl) (fun e h => Qu.pl_sm h D.wf.nst D.wf.ncl) en (place_in c) e1 ⟨_, rfl, T.t_NOUGHT H1⟩
    refine ⟨o, g, ?_⟩
    rw [ef]
    refine ⟨_, _, rfl, .inr hf, fun l hl => ⟨p, l, _, _, rfl, rfl, Same.new hl _ _ (s1 _ _ upd_same), upd_same, by show 3 ≤ sizeLine; decide, fun b hb => ?_⟩⟩
    exact A.1 b _ ((s2.to hl).to hb) ((s2.to hl).no b hb) upd_same
  · rw [if_pos c] at A
    exact A.2.then (Same.new hp)
/-! ### routes -/
theorem places_in {M : Lrx9.Model} {i r j s : Nat} (h : Lrx9.isPlace M i r = true) (k : Lrx9.isPlace M j s = true) : Qu.RoR M.stations.length M.classes.length ⟨i, r, j, s, Lrx1.zero⟩ := by
  have h := Bool.and_eq_true_iff.mp h
  have k := Bool.and_eq_true_iff.mp k
  exact ⟨of_decide_eq_true h.1, of_decide_eq_true h.2, of_decide_eq_true k.1, of_decide_eq_true k.2⟩
def sp_route (K : PySem.W.Frag) : Sp := DeedR 4 (fun n _ => .route (n.getD 0 0) (n.getD 1 0) (n.getD 2 0) (n.getD 3 0)) K
theorem ok_route {w : World} {K : PySem.W.Frag} {mg : Str → Option Value} {base : Heap} (T : Txt w K mg) : OKF w K mg base (L2.CX prog w) 5 d_route ["desk", "numbers", "row"] (sp_route K) := by
  refine okf_mk (k := 4) T 98 rfl sc_route rfl rfl (fun _ _ _ _ _ _ us hl => match us, hl with | [_, _, _], _ => rfl) sp3_len (fun f cdv A outer s H vs Q E hr h => ?_)
  have hu := hu_of hr
  have hu64 := hr.units
  refine ⟨_, (pss_cons (ps_set (i := 3) sc_route.nd rfl (Or.inl rfl) (pe_op op_catT (pe_ok (ok_asked_place T) (hr.mono (by decide)) rfl T.g_asked_place (L2.passes_call (L2.takes_of rfl rfl rfl rfl) fun _ _ _ _ h => h) (pa_cons (pe_fld (pv 0) rfl) (pa_cons (pe_slice sl_list (pv 1) po_none (po_some pe_int)) pa_nil))) (pe_ok (ok_asked_place T) (hr.mono (by decide)) rfl T.g_asked_place (L2.passes_call (L2.takes_of rfl rfl rfl rfl) fun _ _ _ _ h => h) (pa_cons (pe_fld (pv 0) rfl) (pa_cons (pe_slice sl_list (pv 1) (po_some pe_int) po_none) pa_nil)))))
      (pss_one (ps_ret (pe_op op_cat (pe_lst (pa_cons pe_int pa_nil)) (pe_callTy call_list_of rfl T.f_list (by decide +kernel) (pa_cons (pe_dget2 hu (pe_fld (pe_fld (pv 0) rfl) rfl) (pv 3) (pe_gref rfl (T.g_NOUGHT)) ⟨rfl, rfl, rfl, rfl⟩) pa_nil)))))), ?_⟩
  obtain ⟨_, _, _, rfl, dk, dx, d, M, nums, row, rfl, Nv, hn, Rv, hz, D, A⟩ := h
  obtain ⟨i, r, j, t, rfl⟩ := len_four hn
  obtain ⟨na, rfl, nS⟩ := id Nv
  obtain ⟨kvs, es, hk, -⟩ := id D.mo.ro
  have A := show Ans K H Q E (res (if Lrx9.isPlace M i r = false ∨ Lrx9.isPlace M j t = false then Lrx9.error (-2) else Lrx9.fractionResult (Lrx9.valueAt M.routes i r j t))) from A
  refine ⟨_, rfl, _, _, _, _, _, rfl, D.ob, T.c_Desk, T.n_Desk_model, rfl, _, rfl, _, rfl, _, _, rfl, nS, fun p1 hp1 => ?_⟩
  have s1 : Same H (upd H p1 (.lst (vN [i, r]))) := Same.new hp1
  have f1 : (upd H p1 (.lst (vN [i, r]))) p1 = some (.lst (vN [i, r])) := upd_same
  rw [show cutV (vN [i, r, j, t]) none (some 2) = vN [i, r] from rfl]
  generalize upd H p1 (.lst (vN [i, r])) = H1 at *
  refine ⟨_, _, rfl, d, M, i, r, rfl, ⟨p1, rfl, SqL.of f1⟩, D.mo.same s1, fun c1 pl1 H2 s2 n2 e2 => ?_, fun c1 => ?_⟩
  · have s02 := s1.trans s2
    refine ⟨_, rfl, _, _, _, _, _, rfl, (D.same s02).ob, T.c_Desk, T.n_Desk_model, rfl, _, rfl, _, rfl, _, _, rfl, s02.seq nS, fun p3 hp3 => ?_⟩
    have s3 : Same H2 (upd H2 p3 (.lst (vN [j, t]))) := Same.new hp3
    have f3 : (upd H2 p3 (.lst (vN [j, t]))) p3 = some (.lst (vN [j, t])) := upd_same
    rw [show cutV (vN [i, r, j, t]) (some 2) none = vN [j, t] from rfl]
    generalize upd H2 p3 (.lst (vN [j, t])) = H3 at *
    have s03 := s02.trans s3
    refine ⟨_, _, rfl, d, M, j, t, rfl, ⟨p3, rfl, SqL.of f3⟩, D.mo.same s03, fun c2 pl4 H4 s4 n4 e4 => ?_, fun c2 => ?_⟩
    · have s04 := s03.trans s4
      rw [if_neg (by rw [c1, c2]; rintro (z | z) <;> exact Bool.noConfusion z)] at A
      refine ⟨_, _, _, _, rfl, rfl, SqT.of (s4 _ _ (s3 _ _ e2)), SqT.of e4, List.cons_ne_nil _ _, by show 4 ≤ sizeLine; decide, fun z => absurd z (List.cons_ne_nil _ _), fun _ p5 hp5 => ?_⟩
      have s5 : Same H4 (upd H4 p5 (.tup ([.int (i : Int), .int (r : Int)] ++ [.int (j : Int), .int (t : Int)]))) := Same.new hp5
      have f5 : (upd H4 p5 (.tup ([.int (i : Int), .int (r : Int)] ++ [.int (j : Int), .int (t : Int)]))) p5 = some (.tup [.int (i : Int), .int (r : Int), .int (j : Int), .int (t : Int)]) := upd_same
      generalize upd H4 p5 (.tup ([V.int (i : Int), .int (r : Int)] ++ [.int (j : Int), .int (t : Int)])) = H5 at *
      have s05 := s04.trans s5
      have A := A.then s05
      refine ⟨by show 1 ≤ sizeLine; decide, fun p hp => ?_⟩
      have s06 := s05.trans (Same.new (o := .lst [.int 0]) hp)
      refine ⟨_, rfl, _, _, _, _, _, rfl, (D.same s06).ob, T.c_Desk, T.n_Desk_model, rfl, _, _, _, _, _, rfl, (D.same s06).mo.ob, T.c_Model, T.n_Model_routes, rfl, _, rfl, .inr ⟨_, .inl (s06 _ _ hk)⟩, _, rfl, ?_⟩
      obtain ⟨o, g, ⟨fa, ef, hf⟩, -⟩ := tab_get (e := ⟨i, r, j, t, Lrx1.zero⟩) (z := .ref (He.ga K "NOUGHT")) ((D.same s06).mo.ro) (key4_ok (w := w) D.wf.nst D.wf.ncl) (fun e h => Qu.ro_sm h D.wf.nst D.wf.ncl) D.wf.ro (places_in c1 c2) (Same.new hp _ _ f5) ⟨_, rfl, T.t_NOUGHT _⟩
      refine ⟨o, g, ?_⟩
      rw [ef]
      refine ⟨_, _, rfl, .inr hf, fun l hl => ⟨p, l, _, _, rfl, rfl, Same.new hl _ _ upd_same, upd_same, by show 3 ≤ sizeLine; decide, fun b hb => ?_⟩⟩
      have sp := Same.new (o := .lst [.int 0]) hp
      exact A.1 b _ ((sp.to hl).to hb) ((sp.to hl).no b hb) upd_same
    · rw [if_pos (.inr c2)] at A
      exact A.2.then s03
  · rw [if_pos (.inl c1)] at A
    exact A.2.then s1
end Q
set_option Elab.async false
set_option linter.all false
set_option maxRecDepth 100000
set_option maxHeartbeats 4000000
namespace Q
open PySem PySem.Spec PyProof.Rows L2
theorem TabV.len {K : PySem.W.Frag} {H : Hp} {key : Lrx9.Entry → List Key} {a : Addr} {l : List Lrx9.Entry} (h : TabV K H key a l) : ∃ kvs, H a = some (.dT kvs) ∧ kvs.length = l.length := by
  obtain ⟨kvs, es, h1, h2, h3⟩ := h
  exact ⟨kvs, h1, (paired_len h2).trans h3.length_eq⟩
theorem PopV.len {H : Hp} {a : Addr} {l : List Lrx9.Entry} (h : PopV H a l) : ∃ kvs, H a = some (.dK kvs) ∧ kvs.length = l.length := by
  obtain ⟨kvs, es, h1, h2, h3⟩ := h
  exact ⟨kvs, h1, (paired_len h2).trans h3.length_eq⟩
def sp_counts (K : PySem.W.Frag) : Sp := DeedR 0 (fun _ _ => .counts) K
theorem ok_counts {w : World} {K : PySem.W.Frag} {mg : Str → Option Value} {base : Heap} (T : Txt w K mg) : OKF w K mg base (L2.CX prog w) 1 d_counts ["desk", "numbers", "row"] (sp_counts K) := by
  refine okf_mk (k := 0) T 88 rfl sc_counts rfl rfl (fun _ _ _ _ _ _ us hl => match us, hl with | [_, _, _], _ => rfl) sp3_len (fun f cdv A outer s H vs Q E hr h => ?_)
  refine ⟨_, (pss_cons (ps_set (i := 3) sc_counts.nd rfl (Or.inl rfl) (pe_fld (pv 0) rfl))
      (pss_cons (ps_set (i := 4) sc_counts.nd rfl (Or.inl rfl) (pe_lst (pa_cons (pe_callB call_len_seq rfl T.f_len boot_len (pa_cons (pe_fld (pv 3) rfl) pa_nil)) (pa_cons (pe_callB call_len_seq rfl T.f_len boot_len (pa_cons (pe_fld (pv 3) rfl) pa_nil)) (pa_cons (pe_callB call_lenD rfl T.f_len boot_len (pa_cons (pe_fld (pv 3) rfl) pa_nil)) (pa_cons (pe_callB call_len_dT rfl T.f_len boot_len (pa_cons (pe_fld (pv 3) rfl) pa_nil)) pa_nil))))))
      (pss_one (ps_ret (pe_op op_cat (pv 4) (pe_lst (pa_cons (pe_callB call_len_dT rfl T.f_len boot_len (pa_cons (pe_fld (pv 3) rfl) pa_nil)) (pa_cons (pe_callB call_len_dT rfl T.f_len boot_len (pa_cons (pe_fld (pv 3) rfl) pa_nil)) (pa_cons (pe_callB call_len_dT rfl T.f_len boot_len (pa_cons (pe_fld (pv 3) rfl) pa_nil)) (pa_cons (pe_callB call_lenD rfl T.f_len boot_len (pa_cons (pe_fld (pv 3) rfl) pa_nil)) pa_nil)))))))))), ?_⟩
  obtain ⟨_, _, _, rfl, dk, dx, d, M, nums, row, rfl, Nv, hn, Rv, hz, D, A⟩ := h
  obtain ⟨vst, st1, st2⟩ := id D.mo.st
  obtain ⟨kco, co1, co2⟩ := id D.mo.co
  obtain ⟨ksv, sv1, sv2⟩ := D.mo.sv.len
  obtain ⟨kar, ar1, ar2⟩ := D.mo.ar.len
  obtain ⟨kro, ro1, ro2⟩ := D.mo.ro.len
  obtain ⟨kle, le1, le2⟩ := D.mo.le.len
  obtain ⟨kpo, po1, po2⟩ := D.mo.po.len
  refine ⟨_, rfl, _, _, _, _, _, rfl, D.ob, T.c_Desk, T.n_Desk_model, rfl, _, rfl, _, _, _, _, _, rfl, D.mo.ob, T.c_Model, T.n_Model_stations, rfl, _, _, rfl, .inl (SqL.of st1), _, rfl, _, _, _, _, _, rfl, D.mo.ob, T.c_Model, T.n_Model_classes, rfl, _, _, rfl, .inl (SqL.of D.mo.cl), _, rfl, _, _, _, _, _, rfl, D.mo.ob, T.c_Model, T.n_Model_constants, rfl, _, kco, rfl, co1, _, rfl, _, _, _, _, _, rfl, D.mo.ob, T.c_Model, T.n_Model_services, rfl, _, ksv, rfl, sv1, by show 4 ≤ sizeLine; decide, fun p hp => ?_⟩
  have s1 := Same.new (o := .lst [.int (vst.length : Nat), .int ((words M.classes).length : Nat), .int (kco.length : Nat), .int (ksv.length : Nat)]) hp
  refine ⟨_, rfl, _, rfl, _, _, _, _, _, rfl, (D.same s1).mo.ob, T.c_Model, T.n_Model_arrivals, rfl, _, kar, rfl, s1 _ _ ar1, _, rfl, _, _, _, _, _, rfl, (D.same s1).mo.ob, T.c_Model, T.n_Model_routes, rfl, _, kro, rfl, s1 _ _ ro1, _, rfl, _, _, _, _, _, rfl, (D.same s1).mo.ob, T.c_Model, T.n_Model_leaves, rfl, _, kle, rfl, s1 _ _ le1, _, rfl, _, _, _, _, _, rfl, (D.same s1).mo.ob, T.c_Model, T.n_Model_populations, rfl, _, kpo, rfl, s1 _ _ po1, by show 4 ≤ sizeLine; decide, fun q hq => ?_⟩
  refine ⟨p, q, _, _, rfl, rfl, Same.new hq _ _ upd_same, upd_same, by show 8 ≤ sizeLine; decide, fun b hb => ?_⟩
  refine A.1 b _ ((s1.to hq).to hb) ((s1.to hq).no b hb) ?_
  rw [upd_same, paired_len st2, words_len, paired_len co2, sv2, ar2, ro2, le2, po2]
  rfl
theorem sta_at {K : PySem.W.Frag} {H : Hp} {vs : List V} {l : List Lrx9.Station} {i : Nat} (h : Paired (StaV K H) vs l) (hi : i < l.length) : ∃ v, atI vs (i : Int) = some v ∧ StaV K H v l[i] := by
  have hv : i < vs.length := by rw [paired_len h]; exact hi
  obtain ⟨t, e1, e2⟩ := paired_get h (List.getElem?_eq_getElem hv)
  refine ⟨vs[i], atI_nat (List.getElem?_eq_getElem hv), ?_⟩
  rw [List.getElem?_eq_getElem hi] at e1
  rw [Option.some.inj e1]
  exact e2
def sp_show_station (K : PySem.W.Frag) : Sp := DeedR 1 (fun n _ => .station (n.getD 0 0)) K
theorem ok_show_station {w : World} {K : PySem.W.Frag} {mg : Str → Option Value} {base : Heap} (T : Txt w K mg) : OKF w K mg base (L2.CX prog w) 4 d_show_station ["desk", "numbers", "row"] (sp_show_station K) := by
  refine okf_mk (k := 3) T 89 rfl sc_show_station rfl rfl (fun _ _ _ _ _ _ us hl => match us, hl with | [_, _, _], _ => rfl) sp3_len (fun f cdv A outer s H vs Q E hr h => ?_)
  refine ⟨_, (pss_cons (ps_expr (pe_ok (ok_ask T) (hr.mono (by decide)) rfl T.g_ask (L2.passes_call (L2.takes_of rfl rfl rfl rfl) fun _ _ _ _ h => h) (pa_cons (pe_cmpR op_lt (pe_ix ix_list (pv 1) pe_int (fun _ _ => rfl)) (pe_callB call_len_seq rfl T.f_len boot_len (pa_cons (pe_fld (pe_fld (pv 0) rfl) rfl) pa_nil)) (nomark _)) (pa_cons (pe_gint rfl (T.int_NOT_THERE)) pa_nil))))
      (pss_cons (ps_set (i := 3) sc_show_station.nd rfl (Or.inl rfl) (pe_ix ix_list (pe_fld (pe_fld (pv 0) rfl) rfl) (pe_ix ix_list (pv 1) pe_int (fun _ _ => rfl)) (fun _ _ => rfl)))
      (pss_one (ps_ret (pe_op op_cat (pe_lst (pa_cons (pe_fld (pv 3) rfl) (pa_cons (pe_fld (pv 3) rfl) (pa_cons (pe_fld (pv 3) rfl) pa_nil)))) (pe_ok (ok_coded T) (hr.mono (by decide)) rfl T.g_coded pass0 (pa_cons (pe_fld (pv 3) rfl) pa_nil))))))), ?_⟩
  obtain ⟨_, _, _, rfl, dk, dx, d, M, nums, row, rfl, Nv, hn, Rv, hz, D, A⟩ := h
  obtain ⟨na, rfl, nS⟩ := id Nv
  obtain ⟨i, rfl⟩ : ∃ i, nums = [i] := List.length_eq_one_iff.mp hn
  obtain ⟨vst, st1, st2⟩ := id D.mo.st
  have A := show Ans K H Q E (res (match M.stations[i]? with
          | none => Lrx9.error (-2)
          | some s => ⟨(s.discipline : Int), Lrx9.toInts ([s.servers, s.capacity, s.name.length] ++ s.name)⟩)) from A
  refine ⟨_, rfl, _, _, _, _, rfl, rfl, nS, at0, _, rfl, _, _, _, _, _, rfl, D.ob, T.c_Desk, T.n_Desk_model, rfl, _, _, _, _, _, rfl, D.mo.ob, T.c_Model, T.n_Model_stations, rfl, _, _, rfl, .inl (SqL.of st1), _, _, rfl, rfl, ?_⟩
  refine ⟨_, _, rfl, _, -2, rfl, rfl, fun c => ?_, fun c => ?_⟩
  · have hi := of_decide_eq_true c
    rw [paired_len st2] at hi
    have hi : i < M.stations.length := by omega
    have e := List.getElem?_eq_getElem hi
    rw [e] at A
    obtain ⟨v, ev, b, bx, rfl, hb⟩ := sta_at st2 hi
    have ok := D.wf.st _ (List.getElem_mem hi)
    generalize M.stations[i] = st at *
    refine ⟨_, rfl, _, _, _, _, _, rfl, D.ob, T.c_Desk, T.n_Desk_model, rfl, _, _, _, _, _, rfl, D.mo.ob, T.c_Model, T.n_Model_stations, rfl, _, rfl, _, _, _, _, rfl, rfl, nS, at0, _, _, _, _, rfl, rfl, SqL.of st1, ev, ?_⟩
    refine ⟨_, rfl, _, _, _, _, _, rfl, hb, T.c_Station, T.n_Station_discipline, rfl, _, rfl, _, _, _, _, _, rfl, hb, T.c_Station, T.n_Station_servers, rfl, _, rfl, _, _, _, _, _, rfl, hb, T.c_Station, T.n_Station_capacity, rfl, by show 3 ≤ sizeLine; decide, fun p hp => ?_⟩
    have s1 := Same.new (o := .lst [.int (st.discipline : Int), .int (st.servers : Int), .int (st.capacity : Int)]) hp
    refine ⟨_, rfl, _, _, _, _, _, rfl, (s1 _ _ hb), T.c_Station, T.n_Station_name, rfl, _, rfl, _, rfl, nm_small ok.1, fun q H2 s2 nq eq => ?_⟩
    refine ⟨p, q, _, _, rfl, rfl, s2 _ _ upd_same, eq, ?_, fun r hr => ?_⟩
    · rw [vN_len]
      have := ok.1.len
      have h2 : (100 : Nat) ≤ sizeLine := by decide
      show 3 + (st.name.length + 1) ≤ _
      omega
    · refine A.1 r _ ((s1.trans s2).to hr) ((s1.trans s2).no r hr) ?_
      rw [upd_same]
      unfold res
      show some (HO.lst ([V.int (st.discipline : Int), .int (st.servers : Int), .int (st.capacity : Int)] ++ vN (st.name.length :: st.name))) = some (HO.lst (V.int (st.discipline : Int) :: vI (Lrx9.toInts ([st.servers, st.capacity, st.name.length] ++ st.name))))
      rw [vI_vN]
      rfl
  · have hi := of_decide_eq_false c
    rw [paired_len st2] at hi
    have e : M.stations[i]? = none := List.getElem?_eq_none (by omega)
    rw [e] at A
    exact A.2
end Q
set_option Elab.async false
set_option linter.all false
set_option maxRecDepth 100000
set_option maxHeartbeats 4000000
namespace Q
open PySem PySem.Spec PyProof.Rows L2
/-! ### populations -/
theorem pop_val {nc : Nat} (hnc : nc ≤ 4) {r : Nat} (hr : r < nc) : ∀ {kvs : List (Key × V)} {es : List Lrx9.Entry}, Paired (fun (kv : Key × V) (e : Lrx9.Entry) => kv.1 = Sum.inl (e.class_ : Int) ∧ kv.2 = .int e.value.num) kvs es → (∀ x ∈ es, Qu.PoR nc x) →
    (∃ x, valV kvs (Sum.inl (r : Int)) = some (.int x.value.num) ∧ x ∈ es ∧ Lrx9.samePlace x ⟨0, r, 0, 0, Lrx1.zero⟩ = true) ∨ (valV kvs (Sum.inl (r : Int)) = none ∧ ∀ x ∈ es, Lrx9.samePlace x ⟨0, r, 0, 0, Lrx1.zero⟩ = false)
  | _, _, .nil, _ => .inr ⟨rfl, fun x hx => by cases hx⟩
  | kv :: kvs, x :: es, .cons h t, hp => by
    obtain ⟨q1, q2, q3, q4⟩ := hp x List.mem_cons_self
    have iff : kv.1 = Sum.inl (r : Int) ↔ Lrx9.samePlace x ⟨0, r, 0, 0, Lrx1.zero⟩ = true := by
      rw [h.1]
      unfold Lrx9.samePlace
      simp only [q1, q3, q4, BEq.rfl, Bool.true_and, Bool.and_true, beq_iff_eq]
      constructor
      · intro z
        injection z with z
        omega
      · intro z
        rw [z]
    by_cases c : kv.1 = Sum.inl (r : Int)
    · refine .inl ⟨x, ?_, List.mem_cons_self, iff.mp c⟩
      rw [valV_pos c, h.2]
    · rw [valV_neg c]
      rcases pop_val hnc hr t fun y hy => hp y (List.mem_cons_of_mem _ hy) with ⟨y, e1, e2, e3⟩ | ⟨e1, e2⟩
      · exact .inl ⟨y, e1, List.mem_cons_of_mem _ e2, e3⟩
      · refine .inr ⟨e1, fun y hy => ?_⟩
        rcases List.mem_cons.mp hy with rfl | hy
        · cases q : Lrx9.samePlace y ⟨0, r, 0, 0, Lrx1.zero⟩ with
          | false => rfl
          | true => exact absurd (iff.mpr q) c
        · exact e2 y hy
theorem pop_get {H : Hp} {t : Addr} {l : List Lrx9.Entry} {nc r : Nat} (h : PopV H t l) (hnc : nc ≤ 4) (hr : r < nc) (en : Qu.EnOk (Qu.PoR nc) l) :
    ∃ o, DGet H t (.int (r : Int)) o ∧ o.getD (.int 0) = .int (Lrx9.valueAt l 0 r 0 0).num ∧ (o = none ↔ Lrx9.valueAt l 0 r 0 0 = Lrx1.zero) := by
  obtain ⟨kvs, es, h1, h2, h3⟩ := h
  refine ⟨valV kvs (Sum.inl (r : Int)), .inl ⟨kvs, Sum.inl (r : Int), .inl h1, rfl, rfl⟩, ?_⟩
  rcases pop_val hnc hr h2 (fun x hx => en.rg x (h3.subset hx)) with ⟨x, e1, e2, e3⟩ | ⟨e1, e2⟩
  · have ev := value_in_ (e := ⟨0, r, 0, 0, Lrx1.zero⟩) en.so (fun y hy => Qu.po_sm (en.rg y hy) hnc) (Qu.po_sm (nc := nc) ⟨rfl, hr, rfl, rfl⟩ hnc) (h3.subset e2) e3
    have ev : Lrx9.valueAt l 0 r 0 0 = x.value := ev
    rw [e1, ev]
    exact ⟨rfl, ⟨fun z => (by cases z), fun z => absurd z (en.vs x (h3.subset e2)).nz⟩⟩
  · have ev : Lrx9.valueAt l 0 r 0 0 = Lrx1.zero := value_no (l := l) (e := ⟨0, r, 0, 0, Lrx1.zero⟩) fun x hx => e2 x (h3.symm.subset hx)
    rw [e1, ev]
    exact ⟨rfl, ⟨fun _ => rfl, fun _ => rfl⟩⟩
def sp_population (K : PySem.W.Frag) : Sp := DeedR 1 (fun n _ => .population (n.getD 0 0)) K
theorem ok_population {w : World} {K : PySem.W.Frag} {mg : Str → Option Value} {base : Heap} (T : Txt w K mg) : OKF w K mg base (L2.CX prog w) 4 d_population ["desk", "numbers", "row"] (sp_population K) := by
  refine okf_mk (k := 3) T 101 rfl sc_population rfl rfl (fun _ _ _ _ _ _ us hl => match us, hl with | [_, _, _], _ => rfl) sp3_len (fun f cdv A outer s H vs Q E hr h => ?_)
  have hu := hu_of hr
  have hu64 := hr.units
  refine ⟨_, (pss_cons (ps_expr (pe_ok (ok_ask T) (hr.mono (by decide)) rfl T.g_ask (L2.passes_call (L2.takes_of rfl rfl rfl rfl) fun _ _ _ _ h => h) (pa_cons (pe_cmpR op_lt (pe_ix ix_list (pv 1) pe_int (fun _ _ => rfl)) (pe_callB call_len_seq rfl T.f_len boot_len (pa_cons (pe_fld (pe_fld (pv 0) rfl) rfl) pa_nil)) (nomark _)) (pa_cons (pe_gint rfl (T.int_NOT_THERE)) pa_nil))))
      (pss_one (ps_ret (pe_lst (pa_cons (pe_dget2 hu (pe_fld (pe_fld (pv 0) rfl) rfl) (pe_ix ix_list (pv 1) pe_int (fun _ _ => rfl)) pe_int ⟨rfl, rfl, rfl, rfl⟩) pa_nil))))), ?_⟩
  obtain ⟨_, _, _, rfl, dk, dx, d, M, nums, row, rfl, Nv, hn, Rv, hz, D, A⟩ := h
  obtain ⟨na, rfl, nS⟩ := id Nv
  obtain ⟨i, rfl⟩ : ∃ i, nums = [i] := List.length_eq_one_iff.mp hn
  have A := show Ans K H Q E (res (if M.classes.length ≤ i then Lrx9.error (-2) else ⟨(Lrx9.valueAt M.populations 0 i 0 0).num, []⟩)) from A
  refine ⟨_, rfl, _, _, _, _, rfl, rfl, nS, at0, _, rfl, _, _, _, _, _, rfl, D.ob, T.c_Desk, T.n_Desk_model, rfl, _, _, _, _, _, rfl, D.mo.ob, T.c_Model, T.n_Model_classes, rfl, _, _, rfl, .inl (SqL.of D.mo.cl), _, _, rfl, rfl, ?_⟩
  refine ⟨_, _, rfl, _, -2, rfl, rfl, fun c => ?_, fun c => ?_⟩
  · have hi := of_decide_eq_true c
    rw [words_len] at hi
    have hi : i < M.classes.length := by omega
    rw [if_neg (by omega)] at A
    obtain ⟨kpo, po1, po2⟩ := D.mo.po.len
    obtain ⟨o, g, eo, -⟩ := pop_get D.mo.po D.wf.ncl hi D.wf.po
    refine ⟨_, rfl, _, _, _, _, _, rfl, D.ob, T.c_Desk, T.n_Desk_model, rfl, _, _, _, _, _, rfl, D.mo.ob, T.c_Model, T.n_Model_populations, rfl, _, rfl, .inl ⟨_, .inl po1⟩, _, rfl, _, _, _, _, rfl, rfl, nS, at0, o, g, ?_⟩
    rw [eo]
    exact ⟨by show 1 ≤ sizeLine; decide, fun b hb => A.1 b _ (Same.new hb) hb upd_same⟩
  · have hi := of_decide_eq_false c
    rw [words_len] at hi
    rw [if_pos (by omega)] at A
    exact A.2
end Q
set_option Elab.async false
set_option linter.all false
set_option maxRecDepth 100000
set_option maxHeartbeats 4000000
namespace Q
open PySem PySem.Spec PyProof.Rows L2
def sp_evaluate (K : PySem.W.Frag) : Sp := DeedR 0 (fun _ t => .evaluate t) K
def evalA (M : Lrx9.Model) (t : List Nat) : Lrx9.Result := if lineOk t = true then match valueDo M t with
  | .error f => Lrx9.faultResult 0 f
  | .ok q => Lrx9.fractionResult q
  else Lrx9.error (-22)
theorem eval_is {M : Lrx9.Model} {t : List Nat} : (Lrx9.step (some M) (.evaluate t)).2 = evalA M t := by
  show (if Lrx9.isBytes t = false ∨ Lrx9.maxLine < t.length ∨ t.contains 10 then Lrx9.error (-22) else _) = _
  unfold evalA
  rw [line_ok]
  by_cases c : Lrx9.isBytes t = false ∨ Lrx9.maxLine < t.length ∨ t.contains 10
  · rw [if_pos c, if_neg (by rw [decide_eq_true c]; exact Bool.false_ne_true)]
  · rw [if_neg c, if_pos (by rw [decide_eq_false c]; rfl)]
    unfold valueDo
    cases Lrx9.tokens t with
    | error f => rfl
    | ok ts => rfl
theorem ok_len {t : List Nat} (h : lineOk t = true) : t.length ≤ 80 := of_decide_eq_true (Bool.and_eq_true_iff.mp h).1
abbrev rLO (K : PySem.W.Frag) : List V → Hp → VK → Prop := fun xs H Q => ∃ p ys, xs = [V.ref p] ∧ (SqL K H p ys ∨ SqT K H p ys) ∧ ∀ l, H l = none → Q (.ref l) (upd H l (.lst ys))
theorem boot_list : bootBuiltins (Str.ofString "list") = some (Value.type "list") := by decide +kernel
theorem ok_evaluate {w : World} {K : PySem.W.Frag} {mg : Str → Option Value} {base : Heap} (T : Txt w K mg) : OKF w K mg base (L2.CX prog w) 11 d_evaluate ["desk", "numbers", "row"] (sp_evaluate K) := by
  refine okf_mk (k := 10) T 85 rfl sc_evaluate rfl rfl (fun _ _ _ _ _ _ us hl => match us, hl with | [_, _, _], _ => rfl) sp3_len (fun f cdv A outer s H vs Q E hr h => ?_)
  refine ⟨_, (pss_cons (ps_expr (pe_ok (ok_ask_line T) (hr.mono (by decide)) rfl T.g_ask_line (L2.passes_call (L2.takes_of rfl rfl rfl rfl) fun _ _ _ _ h => h) (pa_cons (pv 2) pa_nil)))
      (pss_one (ps_try_asK (D := kN) (D' := kC) (i := 3) rfl rfl rfl sc_evaluate.nd rfl rfl ⟨rfl, by decide, .inl T.g_LineError⟩ (fun hd => L2H.passesAt_of rfl hd) (tb := fun W ↦ tRet (tOp rCat (tLst (tCons (tC (.int 0)) tNil)) (tCB (rLO K) (tCons (tCallS (sp_value_in K) (WE W) (tCons (tFld K (tVar 0) "model") (tCons (tVar 2) tNil))) tNil)))) (gets_c.mpr (L2.takes_of rfl rfl rfl rfl)) (fun W pn xe tk _ => (pss_one (ps_ret (pe_op op_cat (pe_lst (pa_cons pe_int pa_nil)) (pe_callTy call_list_of rfl T.f_list boot_list (pa_cons (pe_okS (ok_value_in T) (hr.mono (by decide)) rfl T.g_value_in (fun σ => L2N.passAt (gets_n.mp tk) σ) (pa_cons (pe_fld (pv 0) rfl) (pa_cons (pv 2) pa_nil))) pa_nil))))))
      (fun k a oe cls d pn xe hz hf hpn tkS => (pss_one (ps_raiseC (.inl ⟨_, hotN_of hz hf⟩) tkS (pmkW (okw_Refused_init T) T.o_Refused.1 T.m_Refused.at_ T.ty_Refused (L2H.roomH_mark (hr.mono (by decide)) _) List.mem_cons_self pass0 rfl T.g_Refused (pa_cons (pe_lst (pa_cons (pe_gint rfl (T.int_TEXT_ERROR)) (pa_cons pe_int (pa_cons (PE.nox (pe_xf T.o_LineError.2 T.n_LineError_column (kN.cl _ _ _ _ hz) hf (pv 3))) (pa_cons (PE.nox (pe_xf T.o_LineError.2 T.n_LineError_kind (kN.cl _ _ _ _ hz) hf (pv 3))) pa_nil))))) pa_nil)))))))), ?_⟩
  obtain ⟨_, _, _, rfl, dk, dx, d, M, nums, row, rfl, Nv, hn, Rv, hz, D, A⟩ := h
  rw [eval_is] at A
  unfold evalA at A
  refine ⟨_, rfl, _, rfl, row, Rv, hz, fun c H1 s1 => ?_, fun c => ?_⟩
  · rw [if_pos c] at A
    refine ⟨by show 1 ≤ sizeLine; decide, fun p hp => ?_⟩
    have s2 := s1.trans (Same.new (o := .lst [.int 0]) hp)
    have fp : (upd H1 p (.lst [V.int 0])) p = some (.lst [.int 0]) := upd_same
    generalize upd H1 p (.lst [V.int 0]) = H2 at *
    have D2 := D.same s2
    refine ⟨_, rfl, _, _, _, _, _, rfl, D2.ob, T.c_Desk, T.n_Desk_model, rfl, _, rfl, _, _, rfl, d, M, row, rfl, Rv.same s2, ok_len c, D2.mo, D.wf, ?_⟩
    cases hv : valueDo M row with
    | error f =>
      rw [hv] at A
      intro dx2 H3 F3 hx3
      refine ⟨T.exm_LineError_LineError, fun a ha => ?_⟩
      have s3 : Same H H3 := s2.trans F3.same
      refine ⟨_, rfl, rfl, rfl, _, _, _, rfl, hx3, rfl, _, rfl, rfl, rfl, _, _, _, rfl, hx3, rfl, by show 4 ≤ sizeLine; decide, fun b hb => ⟨Nat.le_of_ble_eq_true rfl, fun p hp => ?_⟩⟩
      refine ⟨_, _, rfl, p, rfl, upd_same, fun dd hdd ne => ⟨rfl, leave1 (fun d2 hd2 => ?_) hp hdd ne⟩⟩
      have nd : b ≠ d2 := by rintro rfl; rw [upd_same] at hd2; cases hd2
      refine A.2 d2 b _ ((s3.to hb).to hd2) upd_same ?_
      rw [upd_ne nd, upd_same]
      rfl
    | ok q =>
      rw [hv] at A
      intro v H3 s3 fv
      obtain ⟨fa, rfl, hf⟩ := fv
      refine ⟨_, _, rfl, .inr hf, fun l hl => ⟨p, l, _, _, rfl, rfl, Same.new hl _ _ (s3 _ _ fp), upd_same, by show 3 ≤ sizeLine; decide, fun b hb => ?_⟩⟩
      have s4 := s2.trans s3
      exact A.1 b _ ((s4.to hl).to hb) ((s4.to hl).no b hb) upd_same
  · rw [if_neg (by rw [c]; exact Bool.false_ne_true)] at A
    exact A.2
end Q
set_option Elab.async false
set_option linter.all false
set_option maxRecDepth 100000
set_option maxHeartbeats 4000000
namespace Q
open PySem PySem.Spec PyProof.Rows L2
def tokI (t : Lrx9.Token) : List Int := Lrx9.toInts [t.kind, t.column] ++ (if t.kind = 1 then Lrx9.ints t.value else Lrx9.toInts (t.text.length :: t.text))
theorem tokI_len {t : Lrx9.Token} (h : Qu.TokOk t) : (tokI t).length ≤ 15 := by
  unfold tokI
  split
  · show 4 ≤ 15
    decide
  · have := h.len
    unfold Lrx9.toInts
    simp only [List.length_append, List.length_map, List.length_cons, List.length_nil]
    omega
def toksA (t : List Nat) : Lrx9.Result := if lineOk t = true then match Lrx9.tokens t with
  | .error f => Lrx9.faultResult 0 f
  | .ok ts => ⟨(ts.length : Int), ts.flatMap tokI⟩
  else Lrx9.error (-22)
theorem toks_is {M : Lrx9.Model} {t : List Nat} : (Lrx9.step (some M) (.tokens t)).2 = toksA t := by
  show (if Lrx9.isBytes t = false ∨ Lrx9.maxLine < t.length ∨ t.contains 10 then Lrx9.error (-22) else _) = _
  unfold toksA
  rw [line_ok]
  by_cases c : Lrx9.isBytes t = false ∨ Lrx9.maxLine < t.length ∨ t.contains 10
  · rw [if_pos c, if_neg (by rw [decide_eq_true c]; exact Bool.false_ne_true)]
  · rw [if_neg c, if_pos (by rw [decide_eq_false c]; rfl)]
    cases Lrx9.tokens t with
    | error f => rfl
    | ok ts => rfl
theorem flat_take {f : Lrx9.Token → List Int} {ts : List Lrx9.Token} {i : Nat} {t : Lrx9.Token} (h : ts[i]? = some t) : (ts.take (i + 1)).flatMap f = (ts.take i).flatMap f ++ f t := by
  rw [take_next h, List.flatMap_append]
  simp
theorem flat_len {f : Lrx9.Token → List Int} {n : Nat} : ∀ {ts : List Lrx9.Token}, (∀ t ∈ ts, (f t).length ≤ n) → (ts.flatMap f).length ≤ n * ts.length
  | [], _ => by simp
  | t :: ts, h => by
    have h1 := h t List.mem_cons_self
    have h2 := flat_len (f := f) (n := n) (ts := ts) fun t m => h t (List.mem_cons_of_mem _ m)
    rw [List.flatMap_cons, List.length_append, List.length_cons, Nat.mul_succ]
    omega
theorem vI_len {l : List Int} : (vI l).length = l.length := List.length_map ..
theorem vI_app {a b : List Int} : vI (a ++ b) = vI a ++ vI b := List.map_append ..
def sp_show_tokens (K : PySem.W.Frag) : Sp := DeedR 0 (fun _ t => .tokens t) K
theorem ok_show_tokens {w : World} {K : PySem.W.Frag} {mg : Str → Option Value} {base : Heap} (T : Txt w K mg) : OKF w K mg base (L2.CX prog w) 7 d_show_tokens ["desk", "numbers", "row"] (sp_show_tokens K) := by
  refine okf_mk (k := 6) T 84 rfl sc_show_tokens rfl rfl (fun _ _ _ _ _ _ us hl => match us, hl with | [_, _, _], _ => rfl) sp3_len (fun f cdv A outer s H vs Q E hr h => ?_)
  refine ⟨_, (pss_cons (ps_expr (pe_ok (ok_ask_line T) (hr.mono (by decide)) rfl T.g_ask_line (L2.passes_call (L2.takes_of rfl rfl rfl rfl) fun _ _ _ _ h => h) (pa_cons (pv 2) pa_nil)))
      (pss_cons (ps_try_asK (D := kN) (D' := kC) (i := 3) rfl rfl rfl sc_show_tokens.nd rfl rfl ⟨rfl, by decide, .inl T.g_LineError⟩ (fun hd => L2H.passesAt_of rfl hd) (gets_c.mpr (L2.takes_of rfl rfl rfl rfl)) (fun W pn xe tk _ => (pss_one (ps_set (i := 4) sc_show_tokens.nd rfl (Or.inl rfl) (pe_okS (ok_tokens_of T) (hr.mono (by decide)) rfl T.g_tokens_of (fun σ => L2N.passAt (gets_n.mp tk) σ) (pa_cons (pv 2) pa_nil)))))
      (fun k a oe cls d pn xe hz hf hpn tkS => (pss_one (ps_raiseC (.inl ⟨_, hotN_of hz hf⟩) tkS (pmkW (okw_Refused_init T) T.o_Refused.1 T.m_Refused.at_ T.ty_Refused (L2H.roomH_mark (hr.mono (by decide)) _) List.mem_cons_self pass0 rfl T.g_Refused (pa_cons (pe_lst (pa_cons (pe_gint rfl (T.int_TEXT_ERROR)) (pa_cons pe_int (pa_cons (PE.nox (pe_xf T.o_LineError.2 T.n_LineError_column (kN.cl _ _ _ _ hz) hf (pv 3))) (pa_cons (PE.nox (pe_xf T.o_LineError.2 T.n_LineError_kind (kN.cl _ _ _ _ hz) hf (pv 3))) pa_nil))))) pa_nil))))))
      (pss_cons (ps_set (i := 5) sc_show_tokens.nd rfl (Or.inl rfl) (pe_lst (pa_cons (pe_callB call_len_seq rfl T.f_len boot_len (pa_cons (pv 4) pa_nil)) pa_nil)))
      (pss_cons (ps_for (L2.passes_of rfl) rfl (pi_list (pv 4)) (pg_tup rfl (pgs_cons (pg_name (i := 6) sc_show_tokens.nd rfl (Or.inl rfl)) (pgs_cons (pg_name (i := 7) sc_show_tokens.nd rfl (Or.inl rfl)) (pgs_cons (pg_name (i := 8) sc_show_tokens.nd rfl (Or.inl rfl)) pgs_nil))))
      (pss_one (ps_expr (pe_bm PySem.F.plainAttrs_list PySem.F.slot_list_extend PySem.F.type_list_extend mt_extend (pv 5) (pa_cons (pe_op op_cat (pe_lst (pa_cons (pv 6) (pa_cons (pv 7) pa_nil))) (pe_ifExp (pt_cmpR op_eq (pv 6) (pe_gint rfl (T.int_NUMBER)) (nomark _)) (pe_callTy call_list_of rfl T.f_list (by decide +kernel) (pa_cons (pv 8) pa_nil)) (pe_ok (ok_coded T) (hr.mono (by decide)) rfl T.g_coded pass0 (pa_cons (pv 8) pa_nil)))) pa_nil)))))
      (pss_one (ps_ret (pv 5))))))), ?_⟩
  obtain ⟨a0, a1, a2, rfl, dk, dx, d, M, nums, row, rfl, Nv, hn, Rv, hz, D, A⟩ := h
  rw [toks_is] at A
  unfold toksA at A
  refine ⟨_, rfl, _, rfl, row, Rv, hz, fun c H1 s1 => ?_, fun c => ?_⟩
  · rw [if_pos c] at A
    refine ⟨_, rfl, _, rfl, row, Rv.same s1, ok_len c, ?_⟩
    cases ht : Lrx9.tokens row with
    | error f =>
      rw [ht] at A
      intro dx2 H3 F3 hx3
      refine ⟨T.exm_LineError_LineError, fun a ha => ?_⟩
      have s3 : Same H H3 := s1.trans F3.same
      refine ⟨_, rfl, rfl, rfl, _, _, _, rfl, hx3, rfl, _, rfl, rfl, rfl, _, _, _, rfl, hx3, rfl, by show 4 ≤ sizeLine; decide, fun b hb => ⟨Nat.le_of_ble_eq_true rfl, fun p hp => ?_⟩⟩
      refine ⟨_, _, rfl, p, rfl, upd_same, fun dd hdd ne => ⟨rfl, leave1 (fun d2 hd2 => ?_) hp hdd ne⟩⟩
      have nd : b ≠ d2 := by rintro rfl; rw [upd_same] at hd2; cases hd2
      refine A.2 d2 b _ ((s3.to hb).to hd2) upd_same ?_
      rw [upd_ne nd, upd_same]
      rfl
    | ok ts =>
      rw [ht] at A
      rintro v H2 s2 ⟨ta, vs, rfl, hv, pv⟩
      have tok := (Qu.tokens_ok ht).1
      have tl := (Qu.tokens_ok ht).2
      have s02 := s1.trans s2
      refine ⟨_, rfl, _, _, rfl, .inl (SqL.of hv), by show 1 ≤ sizeLine; decide, fun p hp => ?_⟩
      have s3 : Same H2 (upd H2 p (.lst [.int (vs.length : Nat)])) := Same.new hp
      have f3 : (upd H2 p (.lst [V.int (vs.length : Nat)])) p = some (.lst (vI ((ts.length : Int) :: (ts.take 0).flatMap tokI))) := by
        rw [upd_same, paired_len pv]
        rfl
      generalize upd H2 p (.lst [V.int (vs.length : Nat)]) = H3 at *
      refine ⟨_, rfl, ta, rfl, ⟨vs, SqL.of (s3 _ _ hv)⟩, for_it (walk_list (K := K) (a := ta) (xs := vs)) (fun i σ H' => ∃ v6 v7 v8, σ = [some (.ref dk), some a1, some a2, none, some (.ref ta), some (.ref p), v6, v7, v8] ∧ Same H2 H' ∧ H' p = some (.lst (vI ((ts.length : Int) :: (ts.take i).flatMap tokI)))) ⟨none, none, none, rfl, s3, f3⟩ ?_ ?_ ?_⟩
      · rintro i σ H' hi ⟨v6, v7, v8, -, s4, -⟩
        exact SqL.of (s4 _ _ hv)
      · rintro i x σ Hy H4 hi ⟨v6, v7, v8, rfl, s4, e4⟩ ⟨e5, hx⟩
        subst e5
        obtain ⟨t, hti, tv⟩ := paired_get pv hx
        obtain ⟨ax, y, rfl, hax, hnum, hstr⟩ := tv.same s4
        have okt := tok t (List.mem_of_getElem? hti)
        refine ⟨ax, _, rfl, hax, rfl, _, _, rfl, _, _, rfl, _, _, rfl, rfl, ?_⟩
        refine ⟨_, rfl, .inl ⟨rfl, _, .inl (.inl e4)⟩, _, rfl, _, rfl, by show 2 ≤ sizeLine; decide, fun q hq => ?_⟩
        have s5 : Same H4 (upd H4 q (.lst [.int (t.kind : Int), .int (t.column : Int)])) := Same.new hq
        have f5 : (upd H4 q (.lst [V.int (t.kind : Int), .int (t.column : Int)])) q = some (.lst [V.int (t.kind : Int), .int (t.column : Int)]) := upd_same
        generalize upd H4 q (.lst [V.int (t.kind : Int), .int (t.column : Int)]) = H5 at *
        have fin : ∀ l H6, Same H5 H6 → H6 l = some (.lst (vI (if t.kind = 1 then Lrx9.ints t.value else Lrx9.toInts (t.text.length :: t.text)))) → rCat (.ref q) (.ref l) H6 (fun v H7 => ∃ zl zb xs zs, V.ref p = .ref zl ∧ [v] = [.ref zb] ∧ H7 zl = some (.lst xs) ∧ H7 zb = some (.lst zs) ∧ xs.length + zs.length ≤ sizeLine ∧ ∃ v6 v7 v8, [some (V.ref dk), some a1, some a2, none, some (.ref ta), some (.ref p), some (V.int (t.kind : Int)), some (V.int (t.column : Int)), some y] = [some (V.ref dk), some a1, some a2, none, some (.ref ta), some (.ref p), v6, v7, v8] ∧ Same H2 (upd H7 zl (.lst (xs ++ zs))) ∧ (upd H7 zl (.lst (xs ++ zs))) p = some (.lst (vI ((ts.length : Int) :: (ts.take (i + 1)).flatMap tokI)))) := by
          intro l H6 s6 hl
          have tk := tokI_len okt
          have big : (100000 : Nat) ≤ sizeLine := by decide
          refine ⟨q, l, _, _, rfl, rfl, s6 _ _ f5, hl, ?_, fun b hb => ?_⟩
          · have e : (tokI t).length = 2 + (if t.kind = 1 then Lrx9.ints t.value else Lrx9.toInts (t.text.length :: t.text)).length := by
              unfold tokI
              rw [List.length_append]
              rfl
            rw [vI_len]
            show 2 + _ ≤ _
            omega
          · have eb : (upd H6 b (.lst ([V.int (t.kind : Int), .int (t.column : Int)] ++ vI (if t.kind = 1 then Lrx9.ints t.value else Lrx9.toInts (t.text.length :: t.text))))) b = some (.lst (vI (tokI t))) := by
              rw [upd_same]
              unfold tokI
              rw [vI_app]
              rfl
            have s7 : Same H4 (upd H6 b (.lst ([V.int (t.kind : Int), .int (t.column : Int)] ++ vI (if t.kind = 1 then Lrx9.ints t.value else Lrx9.toInts (t.text.length :: t.text))))) := (s5.trans s6).to hb
            generalize upd H6 b (.lst ([V.int (t.kind : Int), .int (t.column : Int)] ++ vI (if t.kind = 1 then Lrx9.ints t.value else Lrx9.toInts (t.text.length :: t.text)))) = H7 at *
            refine ⟨p, b, _, _, rfl, rfl, s7 _ _ e4, eb, ?_, _, _, _, rfl, (s4.trans s7).put hp, ?_⟩
            · have f1 := flat_len (f := tokI) (n := 15) (ts := ts.take i) fun t m => tokI_len (tok t (List.mem_of_mem_take m))
              have f2 : (ts.take i).length ≤ 80 := by
                rw [List.length_take]
                have := ok_len c
                omega
              rw [vI_len, vI_len, List.length_cons]
              omega
            · rw [upd_same, flat_take hti, ← vI_app]
              rfl
        refine ⟨_, rfl, rfl, _, rfl, ite2 (fun ck => ?_) (fun ck => ?_)⟩
        · have k1 : t.kind = 1 := by
            have z := of_decide_eq_true ck
            injection z with z
            omega
          obtain ⟨fa, rfl, hf⟩ := hnum k1
          refine ⟨_, rfl, fa, _, rfl, .inr (s5.seqT hf), fun l hl => ?_⟩
          refine fin l _ (Same.new hl) ?_
          rw [upd_same, if_pos k1]
          rfl
        · have k1 : t.kind ≠ 1 := fun z => ck (decide_eq_true (by rw [z]; rfl))
          obtain rfl := hstr k1
          refine ⟨_, rfl, _, rfl, t.text, rfl, Nat.le_trans okt.len (by decide), fun l H6 s6 nl el => ?_⟩
          refine fin l H6 s6 ?_
          rw [el, if_neg k1, vI_vN]
      · rintro σ H4 ⟨v6, v7, v8, rfl, s4, e4⟩
        have e : ts.take vs.length = ts := by rw [paired_len pv]; exact List.take_length
        rw [e] at e4
        refine ⟨_, rfl, A.1 p H4 (s02.trans s4) (s02.no p hp) e4⟩
  · rw [if_neg (by rw [c]; exact Bool.false_ne_true)] at A
    exact A.2
end Q
set_option Elab.async false
set_option linter.all false
set_option maxRecDepth 100000
set_option maxHeartbeats 4000000
namespace Q
open PySem PySem.Spec PyProof.Rows L2
theorem hu65_of {A : Around} {k : Nat} (hr : Room k A) : A.units + 65 < PySem.cLine := by
  have := hr.un
  omega
theorem rowD_eq (a b : List Nat) : PyData.eqv (rowD a) (rowD b) = (a == b) := by
  have all : ∀ a b : List Nat, PyData.eqvAll (a.map fun (b : Nat) => PyData.int (b : Int)) (b.map fun (b : Nat) => PyData.int (b : Int)) = (a == b) := by
    intro a
    induction a with
    | nil => intro b; cases b <;> rfl
    | cons x a ih =>
      intro b
      cases b with
      | nil => rfl
      | cons y b =>
        rw [List.map_cons, List.map_cons, PyData.eqvAll, ih b]
        show (((x : Int) == (y : Int)) && (a == b)) = (x :: a == y :: b)
        rw [show (x :: a == y :: b) = ((x == y) && (a == b)) from rfl]
        congr 1
        rw [Bool.eq_iff_iff, beq_iff_eq, beq_iff_eq]
        omega
  unfold rowD
  rw [PyData.eqv]
  exact all a b
theorem row_shaped (r : List Nat) : SeqAt.shaped (rowD r) = true := ints_shaped r
theorem cut_head {x : V} {xs : List V} : cutV (x :: xs) (some 1) none = xs := by
  unfold cutV
  have e1 : HT.sIx (x :: xs).length 0 (some 1) = 1 := by
    unfold HT.sIx
    simp
  have e2 : HT.sIx (x :: xs).length (x :: xs).length none = (x :: xs).length := rfl
  rw [e1, e2]
  simp
theorem any_rows {row : List Nat} : ∀ {l : List (List Nat)}, ((l.map rowD).any fun z => PyData.eqv z (rowD row)) = (l.findIdx? fun o => o == row).isSome
  | [] => rfl
  | r :: l => by
    rw [List.map_cons, List.any_cons, rowD_eq, any_rows, List.findIdx?_cons]
    cases r == row with
    | true => rfl
    | false => simp
def GivesN (K : PySem.W.Frag) (H : Hp) (Q : VK) (E : XK) : Option Nat → Prop
  | none => RefS K H E [-33]
  | some i => ∀ H', Same H H' → Q (.int (i : Int)) H'
def sp_number_of_calls (K : PySem.W.Frag) : Sp := sp2 fun a b H Q E => ∃ (nl : Addr) (l : List (List Nat)) (row : List Nat), a = .ref nl ∧ H nl = some (.lst (words l)) ∧ l.length ≤ 16 ∧ (∀ n ∈ l, n.length ≤ 12) ∧ RowV K H b row ∧ row.length ≤ 1000 ∧
  GivesN K H Q E (l.findIdx? fun o => o == row)
theorem row_dp {K : PySem.W.Frag} {H : Hp} {v : V} {row : List Nat} (h : RowV K H v row) : Dp K H v (rowD row) := by
  obtain ⟨a, rfl, h⟩ := h
  exact ints_dp h
theorem paired_words {H : Hp} {D : Addr} : ∀ {l : List (List Nat)} {ys : List V}, Paired (fun x y => y ≠ V.ref D ∧ ∀ t, x = V.str (sT t) → RowL H y t) (words l) ys → Paired (RowL H) ys l
  | [], _, .nil => .nil
  | n :: l, _, .cons h r => .cons (h.2 n rfl) (paired_words r)
theorem ok_number_of_calls {w : World} {K : PySem.W.Frag} {mg : Str → Option Value} {base : Heap} (T : Txt w K mg) : OKF w K mg base (L2.CX prog w) 4 d_number_of_calls ["names", "row"] (sp_number_of_calls K) := by
  refine okf_mk (k := 3) T 91 rfl sc_number_of_calls rfl rfl (fun _ _ _ _ _ _ us hl => match us, hl with | [_, _], _ => rfl) sp2_len (fun f cdv A outer s H vs Q E hr h => ?_)
  have hu := hu_of hr
  have hu64 := hr.units
  refine ⟨_, (pss_cons (ps_setLc (i := 2) (own := [("name", 3)]) (g := gName 3) (tt := tYes) (te := tSl (rSlL K) (tCl (sp_coded K) E0 (tCons (tVar 3) tNil)) (tPart (tC (.int 1))) tNoPart) rfl sc_number_of_calls.nd rfl rfl (sw_true rfl rfl rfl (by decide +kernel)) (pi_list (pv 0)) (blkOk_by (N := N_number_of_calls) (sc := defScope s_number_of_calls) (by decide +kernel)) (fun _ _ _ _ _ => (pg_name (i := 3) sc_number_of_calls.nd rfl (Or.inl rfl))) (fun _ _ _ _ _ => pts_nil) (fun _ _ _ _ _ => (pe_slice sl_list (pe_ok (ok_coded T) (hr.mono (by decide)) rfl T.g_coded pass0 (pa_cons (pv 3) pa_nil)) (po_some pe_int) po_none)))
      (pss_cons (ps_expr (pe_ok (ok_ask T) (hr.mono (by decide)) rfl T.g_ask (L2.passes_call (L2.takes_of rfl rfl rfl rfl) fun _ _ _ _ h => h) (pa_cons (pe_cmpR (op_inD (hu65_of hr)) (pv 1) (pv 2) (by rfl)) (pa_cons (pe_gint rfl (T.int_NO_NAME)) pa_nil))))
      (pss_one (ps_ret (pe_bm PySem.F.plainAttrs_list PySem.F.slot_list_index PySem.F.type_list_index (mt_indexD (hu65_of hr)) (pv 2) (pa_cons (pv 1) pa_nil)))))), ?_⟩
  obtain ⟨_, b, rfl, nl, l, row, rfl, hl, l16, l12, Rv, hz, G⟩ := h
  refine ⟨_, rfl, _, rfl, ⟨_, SqL.of hl⟩, fun D hD => ?_⟩
  refine lc_keep (xs := words l) (fun _ => true) (fun x y H' => y ≠ V.ref D ∧ ∀ t, x = V.str (sT t) → RowL H' y t) (fun x y H' H'' bt r => ⟨r.1, fun t e => ?_⟩) hD (SqL.of hl) (by rw [words_len]; exact Nat.le_trans l16 (by decide)) (fun _ => rfl) (fun x H' Q' m s q => q H' (Same.refl _)) ?_ ?_
  · obtain ⟨ay, rfl, h⟩ := r.2 t e
    exact ⟨ay, rfl, bt _ _ (fun z => r.1 (by rw [z])) h⟩
  · rintro x H' Q' hx - s ⟨o, ho⟩ q
    obtain ⟨n, hn, rfl⟩ : ∃ n ∈ l, V.str (sT n) = x := List.mem_map.mp hx
    refine ⟨_, rfl, _, rfl, n, rfl, Nat.le_trans (l12 n hn) (by decide), fun c H2 s2 nc ec => ⟨_, rfl, _, _, rfl, SqL.of ec, fun p hp => ?_⟩⟩
    refine q _ _ (s2.to hp) ⟨fun z => ?_, fun t et => ?_⟩
    · injection z with z
      rw [z, s2 _ _ ho] at hp
      cases hp
    · injection et with et
      obtain rfl := sT_inj et
      refine ⟨p, rfl, ?_⟩
      rw [upd_same]
      show some (HO.lst (cutV (V.int _ :: vN n) (some 1) none)) = _
      rw [cut_head]
  · intro ys H1 s1 eD pr
    rw [List.filter_eq_self.mpr (fun _ _ => rfl)] at pr
    have pr := paired_words pr
    refine ⟨_, rfl, _, rfl, rowD row, l.map rowD, row_dp (Rv.same s1), .lst (SqL.of eD) (rows_dp pr), row_shaped row, rows_shaped l, ?_⟩
    refine ⟨_, _, rfl, _, -33, rfl, rfl, fun c => ?_, fun c => ?_⟩
    · rw [any_rows] at c
      cases hf : l.findIdx? (fun o => o == row) with
      | none => rw [hf] at c; cases c
      | some i =>
        rw [hf] at G
        obtain ⟨hi, e1, e2⟩ := List.findIdx?_eq_some_iff_getElem.mp hf
        have er : l[i] = row := beq_iff_eq.mp e1
        refine ⟨_, rfl, .inl ⟨rfl, _, .inl (.inl eD)⟩, _, rfl, D, b, rowD row, l.map rowD, i, rowD l[i], rfl, rfl, .lst (SqL.of eD) (rows_dp pr), row_dp (Rv.same s1), rows_shaped l, row_shaped row, ?_, ?_, fun m z hm hz' => ?_, G H1 s1⟩
        · rw [List.getElem?_map, List.getElem?_eq_getElem hi]
          rfl
        · rw [rowD_eq]
          exact e1
        · have hml : m < l.length := by omega
          rw [List.getElem?_map, List.getElem?_eq_getElem hml] at hz'
          obtain rfl : rowD l[m] = z := Option.some.inj hz'
          rw [rowD_eq]
          have := e2 m hm
          exact Bool.eq_false_iff.mpr this
    · rw [any_rows] at c
      cases hf : l.findIdx? (fun o => o == row) with
      | some i => rw [hf] at c; cases c
      | none =>
        rw [hf] at G
        exact (show RefS K H E [-33] from G).then s1
def sp_find_station (K : PySem.W.Frag) : Sp := DeedR 0 (fun _ t => .findStation t) K
theorem find_map {α : Type} {f : α → List Nat} {row : List Nat} (l : List α) : (l.map f).findIdx? (fun o => o == row) = l.findIdx? fun s => f s == row := by
  rw [List.findIdx?_map]
  rfl
theorem ok_find_station {w : World} {K : PySem.W.Frag} {mg : Str → Option Value} {base : Heap} (T : Txt w K mg) : OKF w K mg base (L2.CX prog w) 5 d_find_station ["desk", "numbers", "row"] (sp_find_station K) := by
  refine okf_mk (k := 4) T 92 rfl sc_find_station rfl rfl (fun _ _ _ _ _ _ us hl => match us, hl with | [_, _, _], _ => rfl) sp3_len (fun f cdv A outer s H vs Q E hr h => ?_)
  refine ⟨_, (pss_one (ps_ret (pe_lst (pa_cons (pe_ok (ok_number_of_calls T) (hr.mono (by decide)) rfl T.g_number_of_calls (L2.passes_call (L2.takes_of rfl rfl rfl rfl) fun _ _ _ _ h => h) (pa_cons (pe_ok (ok_station_names T) (hr.mono (by decide)) rfl T.g_station_names pass0 (pa_cons (pe_fld (pv 0) rfl) pa_nil)) (pa_cons (pv 2) pa_nil))) pa_nil)))), ?_⟩
  obtain ⟨_, a1, a2, rfl, dk, dx, d, M, nums, row, rfl, Nv, hn, Rv, hz, D, A⟩ := h
  have A := show Ans K H Q E (res (match Lrx9.stationOf M row with | none => Lrx9.error (-33) | some i => Lrx9.number i)) from A
  unfold Lrx9.stationOf at A
  refine ⟨_, rfl, _, _, _, _, _, rfl, D.ob, T.c_Desk, T.n_Desk_model, rfl, _, rfl, d, M, rfl, D.mo, D.wf, fun b H1 s1 nb eb => ⟨_, rfl, _, _, rfl, b, _, row, rfl, eb, ?_, ?_, Rv.same s1, hz, ?_⟩⟩
  · rw [List.length_map]
    exact Nat.le_trans D.wf.nst (by decide)
  · intro n hn
    obtain ⟨s, hs, rfl⟩ := List.mem_map.mp hn
    exact (D.wf.st s hs).1.len
  · rw [find_map]
    cases hf : M.stations.findIdx? (fun s => s.name == row) with
    | none =>
      rw [hf] at A
      exact A.2.then s1
    | some i =>
      rw [hf] at A
      intro H2 s2
      exact ⟨by show 1 ≤ sizeLine; decide, fun c hc => A.1 c _ ((s1.trans s2).to hc) ((s1.trans s2).no c hc) upd_same⟩
def sp_find_class (K : PySem.W.Frag) : Sp := DeedR 0 (fun _ t => .findClass t) K
theorem ok_find_class {w : World} {K : PySem.W.Frag} {mg : Str → Option Value} {base : Heap} (T : Txt w K mg) : OKF w K mg base (L2.CX prog w) 5 d_find_class ["desk", "numbers", "row"] (sp_find_class K) := by
  refine okf_mk (k := 4) T 93 rfl sc_find_class rfl rfl (fun _ _ _ _ _ _ us hl => match us, hl with | [_, _, _], _ => rfl) sp3_len (fun f cdv A outer s H vs Q E hr h => ?_)
  refine ⟨_, (pss_one (ps_ret (pe_lst (pa_cons (pe_ok (ok_number_of_calls T) (hr.mono (by decide)) rfl T.g_number_of_calls (L2.passes_call (L2.takes_of rfl rfl rfl rfl) fun _ _ _ _ h => h) (pa_cons (pe_fld (pe_fld (pv 0) rfl) rfl) (pa_cons (pv 2) pa_nil))) pa_nil)))), ?_⟩
  obtain ⟨_, a1, a2, rfl, dk, dx, d, M, nums, row, rfl, Nv, hn, Rv, hz, D, A⟩ := h
  have A := show Ans K H Q E (res (match Lrx9.classOf M row with | none => Lrx9.error (-33) | some i => Lrx9.number i)) from A
  unfold Lrx9.classOf at A
  refine ⟨_, rfl, _, _, _, _, _, rfl, D.ob, T.c_Desk, T.n_Desk_model, rfl, _, _, _, _, _, rfl, D.mo.ob, T.c_Model, T.n_Model_classes, rfl, _, rfl, _, _, rfl, d.cl, _, row, rfl, D.mo.cl, Nat.le_trans D.wf.ncl (by decide), fun n hn => (D.wf.cl n hn).len, Rv, hz, ?_⟩
  cases hf : M.classes.findIdx? (fun s => s == row) with
  | none =>
    rw [hf] at A
    exact A.2
  | some i =>
    rw [hf] at A
    intro H2 s2
    exact ⟨by show 1 ≤ sizeLine; decide, fun c hc => A.1 c _ (s2.to hc) (s2.no c hc) upd_same⟩
end Q
set_option Elab.async false
set_option linter.all false
set_option maxRecDepth 100000
set_option maxHeartbeats 4000000
namespace Q
open PySem PySem.Spec PyProof.Rows L2
theorem co_names {K : PySem.W.Frag} {H : Hp} : ∀ {kvs : List (Key × V)} {cs : List (Lrx9.Name × Fr)}, Paired (fun (kv : Key × V) (c : Lrx9.Name × Fr) => kv.1 = Sum.inr (sT c.1) ∧ FrV K H kv.2 c.2) kvs cs → (kvs.map fun kv => kV kv.1) = words (cs.map fun c => c.1)
  | _, _, .nil => rfl
  | kv :: _, _ :: _, .cons h r => by
    rw [List.map_cons, co_names r, h.1]
    rfl
def sp_constant (K : PySem.W.Frag) : Sp := DeedR 0 (fun _ t => .constant t) K
theorem ok_constant {w : World} {K : PySem.W.Frag} {mg : Str → Option Value} {base : Heap} (T : Txt w K mg) : OKF w K mg base (L2.CX prog w) 5 d_constant ["desk", "numbers", "row"] (sp_constant K) := by
  refine okf_mk (k := 4) T 94 rfl sc_constant rfl rfl (fun _ _ _ _ _ _ us hl => match us, hl with | [_, _, _], _ => rfl) sp3_len (fun f cdv A outer s H vs Q E hr h => ?_)
  have hu := hu_of hr
  have hu64 := hr.units
  refine ⟨_, (pss_cons (ps_set (i := 3) sc_constant.nd rfl (Or.inl rfl) (pe_callTy (call_list_dK rfl) rfl T.f_list (by decide +kernel) (pa_cons (pe_fld (pe_fld (pv 0) rfl) rfl) pa_nil)))
      (pss_one (ps_ret (pe_op op_cat (pe_lst (pa_cons pe_int pa_nil)) (pe_callTy call_list_of rfl T.f_list (by decide +kernel) (pa_cons (pe_dget hu (pe_fld (pe_fld (pv 0) rfl) rfl) (pe_ix ix_list (pv 3) (pe_ok (ok_number_of_calls T) (hr.mono (by decide)) rfl T.g_number_of_calls (L2.passes_call (L2.takes_of rfl rfl rfl rfl) fun _ _ _ _ h => h) (pa_cons (pv 3) (pa_cons (pv 2) pa_nil))) (fun _ _ => rfl)) (fun _ _ => rfl)) pa_nil)))))), ?_⟩
  obtain ⟨_, a1, a2, rfl, dk, dx, d, M, nums, row, rfl, Nv, hn, Rv, hz, D, A⟩ := h
  have A := show Ans K H Q E (res (match Lrx9.constantOf M row with | none => Lrx9.error (-33) | some v => Lrx9.fractionResult v)) from A
  unfold Lrx9.constantOf at A
  obtain ⟨kvs, hk, pr⟩ := id D.mo.co
  refine ⟨_, rfl, _, _, _, _, _, rfl, D.ob, T.c_Desk, T.n_Desk_model, rfl, _, _, _, _, _, rfl, D.mo.ob, T.c_Model, T.n_Model_constants, rfl, _, kvs, rfl, hk, fun l hl => ?_⟩
  rw [co_names pr]
  have s1 : Same H (upd H l (.lst (words (M.constants.map fun c => c.1)))) := Same.new hl
  have f1 : (upd H l (.lst (words (M.constants.map fun c => c.1)))) l = some (.lst (words (M.constants.map fun c => c.1))) := upd_same
  generalize upd H l (.lst (words (M.constants.map fun c => c.1))) = H1 at *
  refine ⟨by show 1 ≤ sizeLine; decide, fun p hp => ?_⟩
  have s2 : Same H1 (upd H1 p (.lst [V.int 0])) := Same.new hp
  have f2 : (upd H1 p (.lst [V.int 0])) p = some (.lst [V.int 0]) := upd_same
  generalize upd H1 p (.lst [V.int 0]) = H2 at *
  have s02 := s1.trans s2
  refine ⟨_, rfl, _, _, _, _, _, rfl, (D.same s02).ob, T.c_Desk, T.n_Desk_model, rfl, _, _, _, _, _, rfl, (D.same s02).mo.ob, T.c_Model, T.n_Model_constants, rfl, _, rfl, _, rfl, _, rfl, _, _, rfl, l, _, row, rfl, s2 _ _ f1, ?_, ?_, Rv.same s02, hz, ?_⟩
  · rw [List.length_map]
    exact D.wf.nco
  · intro n hn
    obtain ⟨c, hc, rfl⟩ := List.mem_map.mp hn
    exact (D.wf.co c hc).2.len
  · rw [find_map]
    cases hf : M.constants.findIdx? (fun s => s.1 == row) with
    | none =>
      have e : M.constants.find? (fun e => e.1 == row) = none := List.find?_eq_none.mpr fun x hx => by
        have := List.findIdx?_eq_none_iff.mp hf x hx
        rw [this]
        exact Bool.false_ne_true
      rw [e] at A
      exact A.2.then s02
    | some i =>
      obtain ⟨hi, e1, e2⟩ := List.findIdx?_eq_some_iff_getElem.mp hf
      intro H3 s3
      have s03 := s02.trans s3
      have er : M.constants[i].1 = row := beq_iff_eq.mp e1
      refine ⟨_, _, _, _, rfl, rfl, SqL.of (s3 _ _ (s2 _ _ f1)), words_at (t := row) ?_, ?_⟩
      · rw [List.getElem?_map, List.getElem?_eq_getElem hi, ← er]
        rfl
      · rcases co_find (n := row) pr with ⟨n1, n2⟩ | ⟨v, q, n1, n2, n3⟩
        · exfalso
          have : M.constants.find? (fun e => e.1 == row) = none := by
            cases h : M.constants.find? (fun e => e.1 == row) with
            | none => rfl
            | some x => rw [h] at n2; cases n2
          exact List.find?_eq_none.mp this M.constants[i] (List.getElem_mem hi) (beq_iff_eq.mpr er)
        · rw [n2] at A
          obtain ⟨fa, rfl, hf⟩ := n3.same s03
          refine ⟨_, _, rfl, .inl ⟨kvs, Sum.inr (sT row), .inl (s03 _ _ hk), rfl, n1.symm⟩, _, _, rfl, .inr hf, fun b hb => ⟨p, b, _, _, rfl, rfl, Same.new hb _ _ (s3 _ _ f2), upd_same, by show 3 ≤ sizeLine; decide, fun c hc => ?_⟩⟩
          exact A.1 c _ ((s03.to hb).to hc) ((s03.to hb).no c hc) upd_same
end Q
set_option Elab.async false
set_option linter.all false
set_option maxRecDepth 100000
set_option maxHeartbeats 4000000
namespace Q
open PySem PySem.Spec PyProof.Rows L2
/-! ### a desk takes another model -/
def Dss (S : Addr → Prop) (H : Hp) : Prop := ∀ b, S b → ∃ C dx v, H b = some (.ins C dx [("model", v)])
theorem Dss.no {S : Addr → Prop} {H : Hp} (h : Dss S H) {b : Addr} {o : HO} (e : H b = some o) (n : ∀ C dx v, o ≠ .ins C dx [("model", v)]) : ¬ S b := fun s => by
  obtain ⟨C, dx, v, e2⟩ := h b s
  rw [e] at e2
  exact n _ _ _ (Option.some.inj e2)
theorem MdO.fmD {S : Addr → Prop} {K : PySem.W.Frag} {H H' : Hp} {d : MD} {M : Lrx9.Model} (h : MdO K H d M) (e : Fm S H H') (n : Dss S H) : MdO K H' d M := by
  have len : ∀ {C dx C' dx' : Addr} {fs gs : List (Str × V)}, fs.length ≠ gs.length → HO.ins C dx fs ≠ .ins C' dx' gs := fun q z => by
    injection z with _ _ z
    exact q (by rw [z])
  refine ⟨e.st _ _ h.ob fun s => absurd s (n.no h.ob fun _ _ _ => len (by simp [mdF])), h.co.fm e ?_, e.st _ _ h.cl fun s => absurd s (n.no h.cl fun _ _ _ z => by cases z), ?_, h.sv.fm e ?_, h.ar.fm e ?_, h.ro.fm e ?_, h.le.fm e ?_, h.po.fm e ?_, h.n1, h.n2, h.n3⟩
  · obtain ⟨kvs, h1, -⟩ := h.co
    exact n.no h1 fun _ _ _ z => by cases z
  · obtain ⟨vs, h1, -⟩ := id h.st
    exact h.st.fm e (n.no h1 fun _ _ _ z => by cases z) fun b dx s hb => n.no hb fun _ _ _ => len (by simp [staF])
  · obtain ⟨kvs, es, h1, -⟩ := h.sv
    exact n.no h1 fun _ _ _ z => by cases z
  · obtain ⟨kvs, es, h1, -⟩ := h.ar
    exact n.no h1 fun _ _ _ z => by cases z
  · obtain ⟨kvs, es, h1, -⟩ := h.ro
    exact n.no h1 fun _ _ _ z => by cases z
  · obtain ⟨kvs, es, h1, -⟩ := h.le
    exact n.no h1 fun _ _ _ z => by cases z
  · obtain ⟨kvs, es, h1, -⟩ := h.po
    exact n.no h1 fun _ _ _ z => by cases z
/-- a desk, with or without a model -/
def DskS (K : PySem.W.Frag) (H : Hp) (dk dx : Addr) : Option Lrx9.Model → Prop
  | none => H dk = some (.ins (cDesk K) dx [("model", .non)])
  | some M => ∃ d, DskM K H dk dx d M
theorem DskS.ob {K : PySem.W.Frag} {H : Hp} {dk dx : Addr} {st : Option Lrx9.Model} (h : DskS K H dk dx st) : ∃ v, H dk = some (.ins (cDesk K) dx [("model", v)]) := by
  cases st with
  | none => exact ⟨_, h⟩
  | some M =>
    obtain ⟨d, D⟩ := h
    exact ⟨_, D.ob⟩
/-- the desk behind a call; a first model has lists of its own -/
def DskN (K : PySem.W.Frag) (H H' : Hp) (dk dx : Addr) : Option Lrx9.Model → Prop
  | none => H' dk = some (.ins (cDesk K) dx [("model", .non)])
  | some M => ∃ d, DskM K H' dk dx d M ∧ (H dk = some (.ins (cDesk K) dx [("model", .non)]) → ∀ y, H y ≠ none → y ≠ d.cl ∧ y ≠ d.st)
theorem DskN.s {K : PySem.W.Frag} {H H' : Hp} {dk dx : Addr} {st : Option Lrx9.Model} (h : DskN K H H' dk dx st) : DskS K H' dk dx st := by
  cases st with
  | none => exact h
  | some M =>
    obtain ⟨d, D, -⟩ := h
    exact ⟨d, D⟩
/-- an answer, the desk changed -/
def AnsW (K : PySem.W.Frag) (dk dx : Addr) (H : Hp) (Q : VK) (st : Option Lrx9.Model) (ans : List Int) : Prop := ∀ b H', Fm (fun y => y = dk) H H' → H b = none → DskN K H H' dk dx st → H' b = some (.lst (vI ans)) → Q (.ref b) H'
theorem desk_put {K : PySem.W.Frag} {H H1 : Hp} {dk dx : Addr} {v : V} {d : MD} {M : Lrx9.Model} (s : Same H H1) (hd : H dk = some (.ins (cDesk K) dx [("model", v)])) (MO : MdO K H1 d M) (wf : Qu.Wf M) :
    Fm (fun y => y = dk) H (upd H1 dk (.ins (cDesk K) dx [("model", .ref d.a)])) ∧ DskM K (upd H1 dk (.ins (cDesk K) dx [("model", .ref d.a)])) dk dx d M := by
  have h1 := s _ _ hd
  have F : Fm (fun y => y = dk) H1 (upd H1 dk (.ins (cDesk K) dx [("model", .ref d.a)])) := (Fm.refl H1).put h1 id (.inr rfl)
  exact ⟨s.fm.trans F, upd_same, MO.fmD F (fun b e => by have e : b = dk := e; subst e; exact ⟨_, _, _, h1⟩), wf⟩
def sp_create (K : PySem.W.Frag) : Sp := sp3 fun a b c H Q E => ∃ (dk dx : Addr) (v : V), a = .ref dk ∧ H dk = some (.ins (cDesk K) dx [("model", v)]) ∧ AnsW K dk dx H Q (some Lrx9.empty) [0]
theorem ok_create {w : World} {K : PySem.W.Frag} {mg : Str → Option Value} {base : Heap} (T : Txt w K mg) : OKF w K mg base (L2.CX prog w) 3 d_create ["desk", "numbers", "row"] (sp_create K) := by
  refine okf_mk (k := 2) T 81 rfl sc_create rfl rfl (fun _ _ _ _ _ _ us hl => match us, hl with | [_, _, _], _ => rfl) sp3_len (fun f cdv A outer s H vs Q E hr h => ?_)
  refine ⟨_, (pss_cons (ps_fld (pv 0) (pe_mk0 (ok_Model_init T) T.k_Model (hr.mono (by decide)) rfl T.g_Model pass0) rfl)
      (pss_one (ps_ret (pe_lst (pa_cons pe_int pa_nil))))), ?_⟩
  obtain ⟨_, a1, a2, rfl, dk, dx, v, rfl, hd, A⟩ := h
  refine fun x mdx hx hdx ne => ⟨_, rfl, x, mdx, rfl, upd_same, fun d0 H0 ea ed F0 MO0 nw => ⟨rfl, ?_⟩⟩
  have hx' : upd H mdx (.own x) x = none := by rw [upd_ne (Ne.symm ne)]; exact hx
  have s0 : Same H (upd (upd H mdx (.own x)) x (.ins (cModel K) mdx [])) := (Same.new hdx).to hx'
  have F0 : Fm (fun b => b = x) H H0 := s0.fm.trans F0
  have s1 : Same H H0 := F0.same1 hx
  obtain ⟨F2, D2⟩ := desk_put s1 hd MO0 Qu.wf_empty
  subst ea
  refine ⟨_, rfl, dk, _, dx, _, rfl, s1 _ _ hd, T.c_Desk, T.n_Desk_model, Nat.le_of_ble_eq_true rfl, ?_⟩
  refine ⟨by show 1 ≤ sizeLine; decide, fun b hb => ?_⟩
  have s3 := Same.new (o := .lst [.int 0]) hb
  refine A b _ (F2.trans s3.fm) (F2.no b hb) ⟨_, D2.same s3, fun _ y hy => ⟨fun z => hy (s0.no _ ?_), fun z => hy (s0.no _ ?_)⟩⟩ upd_same
  · rw [z]
    exact nw _ (by simp)
  · rw [z]
    exact nw _ (by simp)
end Q
set_option Elab.async false
set_option linter.all false
set_option maxRecDepth 100000
set_option maxHeartbeats 4000000
namespace Q
open PySem PySem.Spec PyProof.Rows L2
/-! ### numbers as words -/
theorem digits_numL : ∀ (f n : Nat), n < 10 ^ f → Lrx9.digitsOf f n = TL.numL n ∨ f = 0
  | 0, _, _ => .inr rfl
  | f + 1, n, h => by
    left
    rw [Lrx9.digitsOf]
    by_cases c : n < 10
    · rw [if_pos c, TL.numL_lt c]
    · rw [if_neg c, TL.numL_step (by omega)]
      have h2 : n / 10 < 10 ^ f := by
        rw [Nat.pow_succ] at h
        omega
      rcases digits_numL f (n / 10) h2 with e | e
      · rw [e]
      · subst e
        simp at h2
        omega
theorem nat_text (n : Nat) : Lrx9.natText n = TL.numL n := by
  unfold Lrx9.natText
  have h : n < 10 ^ (n.log2 + 1) := Nat.lt_of_lt_of_le Nat.lt_log2_self (Nat.pow_le_pow_left (by decide) _)
  rcases digits_numL _ n h with e | e
  · exact e
  · cases e
theorem str_list {s : String} {l : List Nat} (h : s.toList.map Char.toNat = l) : Str.ofString s = sT l := by
  rw [Str.ofString_eq_toList, h]
  rfl
theorem nat_list (n : Nat) : (toString ((n : Nat) : Int)).toList.map Char.toNat = Lrx9.natText n := by
  rw [nat_text]
  have e := TL.tl_num n
  rw [Str.ofString_eq_toList] at e
  simpa using e
theorem str_nat (n : Nat) : Str.ofString (toString ((n : Nat) : Int)) = sT (Lrx9.natText n) := str_list (nat_list n)
theorem str_neg (n : Nat) : Str.ofString (toString (Int.negSucc n)) = sT (45 :: Lrx9.natText (n + 1)) := by
  refine str_list ?_
  have e : toString (Int.negSucc n) = "-" ++ toString ((n + 1 : Nat) : Int) := rfl
  rw [e, String.toList_append, List.map_append, nat_list]
  rfl
def intText (i : Int) : List Nat := (if i < 0 then [45] else []) ++ Lrx9.natText i.natAbs
theorem str_int : ∀ i : Int, Str.ofString (toString i) = sT (intText i)
  | .ofNat n => by
    unfold intText
    rw [if_neg (by show ¬ ((n : Nat) : Int) < 0; omega)]
    exact str_nat n
  | .negSucc n => by
    unfold intText
    rw [if_pos (Int.negSucc_lt_zero n)]
    exact str_neg n
theorem frac_text (q : Fr) : Lrx9.fractionText q = intText q.num ++ (if q.den = 1 then [] else 47 :: Lrx9.natText q.den) := rfl
theorem sT_app (a b : List Nat) : sT a ++ sT b = sT (a ++ b) := by
  show Str.mk (a.toArray ++ b.toArray) = _
  rw [List.append_toArray]
  rfl
theorem nat_small {n k : Nat} (hk : 0 < k) (h : n < 10 ^ k) : (Lrx9.natText n).length ≤ k := by
  rw [nat_text]
  exact TL.numL_len hk h
theorem int_small {i : Int} (h : i.natAbs < 10 ^ 9) : (intText i).length ≤ 10 := by
  unfold intText
  have := nat_small (n := i.natAbs) (k := 9) (by decide) h
  rw [List.length_append]
  split <;> simp <;> omega
theorem short_nd {q : Fr} (h : Lrx9.isShort q = true) : q.num.natAbs < 10 ^ 9 ∧ q.den < 10 ^ 9 := of_decide_eq_true h
def sp_value_word (K : PySem.W.Frag) : Sp := sp1 fun a H Q _ => ∃ q : Fr, FrV K H a q ∧ Lrx9.isShort q = true ∧ Q (.str (sT (Lrx9.fractionText q))) H
theorem slash : ("/" : Str) = sT [47] := by decide +kernel
theorem log_small {n : Nat} (h : n < 10 ^ 9) : n.log2 < 1920 := by
  by_cases z : n = 0
  · subst z; decide
  · rw [Nat.log2_lt z]
    have : (10 : Nat) ^ 9 < 2 ^ 30 := by decide
    exact Nat.lt_of_lt_of_le (Nat.lt_trans h this) (Nat.pow_le_pow_right (by decide) (by decide))
theorem ok_value_word {w : World} {K : PySem.W.Frag} {mg : Str → Option Value} {base : Heap} (T : Txt w K mg) : OKF w K mg base (CX0) 1 d_value_word ["value"] (sp_value_word K) := by
  refine okf_mk (k := 0) T 14 rfl sc_value_word rfl rfl (fun _ _ _ _ _ _ us hl => match us, hl with | [_], _ => rfl) sp1_len (fun f cdv A outer s H vs Q E hr h => ?_)
  refine ⟨_, (PSs.nox (pss_one (ps_ret (pe_ifExp (pt_cmpR op_eq (pe_ix ix_tup (pv 0) pe_int (fun _ _ => rfl)) pe_int (nomark _)) (pe_callTy call_str_int rfl T.f_str (by decide +kernel) (pa_cons (pe_ix ix_tup (pv 0) pe_int (fun _ _ => rfl)) pa_nil)) (pe_op op_add_str (pe_op op_add_str (pe_callTy call_str_int rfl T.f_str (by decide +kernel) (pa_cons (pe_ix ix_tup (pv 0) pe_int (fun _ _ => rfl)) pa_nil)) pe_str) (pe_callTy call_str_int rfl T.f_str (by decide +kernel) (pa_cons (pe_ix ix_tup (pv 0) pe_int (fun _ _ => rfl)) pa_nil))))))), ?_⟩
  obtain ⟨_, rfl, q, ⟨fa, rfl, hf⟩, sh, hQ⟩ := h
  obtain ⟨h1, h2⟩ := short_nd sh
  refine ⟨_, rfl, _, _, _, _, rfl, rfl, hf, at1, rfl, _, rfl, ite2 (fun c => ?_) (fun c => ?_)⟩
  · have d1 : q.den = 1 := by
      have z := of_decide_eq_true c
      injection z with z
      omega
    refine ⟨_, rfl, _, _, _, _, rfl, rfl, hf, at0, _, rfl, log_small h1, ?_⟩
    rw [frac_text, if_pos d1, List.append_nil] at hQ
    rw [show (toString q.num : Str) = sT (intText q.num) from str_int _]
    exact hQ
  · have d1 : q.den ≠ 1 := fun z => c (decide_eq_true (by rw [z]; rfl))
    rw [frac_text, if_neg d1] at hQ
    have e1 : (toString q.num : Str) = sT (intText q.num) := str_int _
    have e2 : (toString (q.den : Int) : Str) = sT (Lrx9.natText q.den) := str_nat _
    have l1 := int_small h1
    have l2 := nat_small (n := q.den) (k := 9) (by decide) h2
    have big : (100 : Nat) ≤ sizeLine := by decide
    refine ⟨_, rfl, _, _, _, _, rfl, rfl, hf, at0, _, rfl, log_small h1, _, _, rfl, rfl, ?_, ?_⟩
    · rw [e1, sT_len]
      show _ + 1 ≤ _
      omega
    · refine ⟨_, rfl, _, _, _, _, rfl, rfl, hf, at1, _, rfl, log_small (by simpa using h2), _, _, rfl, rfl, ?_, ?_⟩
      · rw [e1, e2, slash, sT_app, sT_len, sT_len, List.length_append]
        show _ + 1 + _ ≤ _
        omega
      · rw [e1, e2, slash, sT_app, sT_app, List.append_assoc]
        exact hQ
end Q
set_option Elab.async false
set_option linter.all false
set_option maxRecDepth 100000
set_option maxHeartbeats 4000000
namespace Q
open PySem PySem.Spec PyProof.Rows L2
def flat2 (ps : List (Nat × Nat)) : List Nat := ps.flatMap fun p => [p.1, p.2]
theorem flat2_at : ∀ {ps : List (Nat × Nat)} {i : Nat} {p : Nat × Nat}, ps[i]? = some p → (flat2 ps)[2 * i]? = some p.1 ∧ (flat2 ps)[2 * i + 1]? = some p.2
  | [], i, p, h => by simp at h
  | q :: ps, 0, p, h => by
    simp at h
    subst h
    exact ⟨rfl, rfl⟩
  | q :: ps, i + 1, p, h => by
    have ih := flat2_at (ps := ps) (i := i) (p := p) (by simpa using h)
    exact ⟨ih.1, ih.2⟩
theorem flat2_len : ∀ ps : List (Nat × Nat), (flat2 ps).length = 2 * ps.length
  | [] => rfl
  | p :: ps => by
    show (flat2 ps).length + 1 + 1 = _
    rw [flat2_len ps, List.length_cons]
    omega
def plW (M : Lrx9.Model) (p : Nat × Nat) : List (List Nat) := [Lrx9.stationName M p.1, Lrx9.className M p.2]
theorem plW_len (M : Lrx9.Model) : ∀ ps : List (Nat × Nat), (ps.flatMap (plW M)).length = 2 * ps.length
  | [] => rfl
  | p :: ps => by
    rw [List.flatMap_cons, List.length_append, plW_len M ps, List.length_cons]
    show 2 + _ = _
    omega
def sp_place_words (K : PySem.W.Frag) : Sp := sp2 fun a b H Q _ => ∃ (d : MD) (M : Lrx9.Model) (pb : Addr) (ps : List (Nat × Nat)), a = .ref d.a ∧ b = .ref pb ∧ H pb = some (.tup (vN (flat2 ps))) ∧ (ps.length = 1 ∨ ps.length = 2) ∧
  (∀ p ∈ ps, p.1 < M.stations.length ∧ p.2 < M.classes.length) ∧ MdO K H d M ∧ ∀ q H', Same H H' → H q = none → H' q = some (.lst (words (ps.flatMap (plW M)))) → Q (.ref q) H'
theorem words_app (a b : List (List Nat)) : words (a ++ b) = words a ++ words b := List.map_append ..
theorem ok_place_words {w : World} {K : PySem.W.Frag} {mg : Str → Option Value} {base : Heap} (T : Txt w K mg) : OKF w K mg base (CX0) 1 d_place_words ["model", "place"] (sp_place_words K) := by
  refine okf_mk (k := 0) T 15 rfl sc_place_words rfl rfl (fun _ _ _ _ _ _ us hl => match us, hl with | [_, _], _ => rfl) sp2_len (fun f cdv A outer s H vs Q E hr h => ?_)
  refine ⟨_, (PSs.nox (pss_cons (ps_set (i := 2) sc_place_words.nd rfl (Or.inl rfl) (pe_lst pa_nil))
      (pss_cons (ps_for PassesOwn.never rfl (pi_range3 rfl T.f_range (pa_cons pe_int (pa_cons (pe_callB call_len_seq rfl T.f_len boot_len (pa_cons (pv 1) pa_nil)) (pa_cons pe_int pa_nil)))) (pg_name (i := 3) sc_place_words.nd rfl (Or.inl rfl))
      (pss_one (ps_expr (pe_bm PySem.F.plainAttrs_list PySem.F.slot_list_extend PySem.F.type_list_extend mt_extend (pv 2) (pa_cons (pe_lst (pa_cons (pe_fld (pe_ix ix_list (pe_fld (pv 0) rfl) (pe_ix ix_tup (pv 1) (pv 3) (fun _ _ => rfl)) (fun _ _ => rfl)) rfl) (pa_cons (pe_ix ix_list (pe_fld (pv 0) rfl) (pe_ix ix_tup (pv 1) (pe_op op_add (pv 3) pe_int) (fun _ _ => rfl)) (fun _ _ => rfl)) pa_nil))) pa_nil)))))
      (pss_one (ps_ret (pv 2)))))), ?_⟩
  obtain ⟨_, _, rfl, d, M, pb, ps, rfl, rfl, hb, hm, hr2, MO, hQ⟩ := h
  obtain ⟨vst, st1, st2⟩ := id MO.st
  have big : (100 : Nat) ≤ sizeLine := by decide
  refine ⟨by show 0 ≤ sizeLine; decide, fun p hp => ?_⟩
  have s1 : Same H (upd H p (.lst [])) := Same.new hp
  have f1 : (upd H p (.lst [])) p = some (.lst (words ((ps.take 0).flatMap (plW M)))) := upd_same
  generalize upd H p (.lst []) = H1 at *
  have lb : (vN (flat2 ps)).length = 2 * ps.length := by rw [vN_len, flat2_len]
  have rg : RgC 0 (((vN (flat2 ps)).length : Nat) : Int) 2 ps.length := by
    rw [lb]
    rcases hm with e | e <;> rw [e] <;> exact ⟨by decide, by decide, by decide, by decide⟩
  refine ⟨_, rfl, _, _, rfl, .inr (SqT.of (s1 _ _ hb)), _, _, _, _, rfl, rg, for_it walk_rangeC (fun i σ H' => ∃ v3, σ = [some (.ref d.a), some (.ref pb), some (.ref p), v3] ∧ Same H H' ∧ H' p = some (.lst (words ((ps.take i).flatMap (plW M))))) ⟨none, rfl, s1, f1⟩ (fun _ _ _ _ _ => trivial) ?_ ?_⟩
  · rintro i x σ Hy H2 hi ⟨v3, rfl, s2, e2⟩ ⟨ey, rfl⟩
    subst ey
    have hpi : ps[i]? = some ps[i] := List.getElem?_eq_getElem hi
    obtain ⟨g1, g2⟩ := flat2_at hpi
    have rr := hr2 _ (List.getElem_mem hi)
    generalize ps[i] = pt at *
    obtain ⟨vs, evs, bs, bx, rfl, hbs⟩ := sta_at st2 rr.1
    have x1 : atI (vN (flat2 ps)) (0 + (i : Int) * 2) = some (.int (pt.1 : Int)) := by
      rw [show (0 + (i : Int) * 2) = ((2 * i : Nat) : Int) by omega]
      exact vN_at g1
    have x2 : atI (vN (flat2 ps)) (0 + (i : Int) * 2 + 1) = some (.int (pt.2 : Int)) := by
      rw [show (0 + (i : Int) * 2 + 1) = ((2 * i + 1 : Nat) : Int) by omega]
      exact vN_at g2
    have n1 : M.stations[pt.1].name = Lrx9.stationName M pt.1 := by
      unfold Lrx9.stationName
      rw [List.getElem?_eq_getElem rr.1]
      rfl
    have n2 : M.classes[pt.2] = Lrx9.className M pt.2 := by
      unfold Lrx9.className
      rw [List.getD_eq_getElem?_getD, List.getElem?_eq_getElem rr.2]
      rfl
    refine ⟨_, rfl, .inl ⟨rfl, _, .inl (.inl e2)⟩, ?_⟩
    refine ⟨_, rfl, _, _, _, _, _, rfl, s2 _ _ MO.ob, T.c_Model, T.n_Model_stations, rfl, _, rfl, _, rfl, _, _, _, _, rfl, rfl, SqT.of (s2 _ _ hb), x1, _, _, _, _, rfl, rfl, SqL.of (s2 _ _ st1), evs, _, _, _, _, _, rfl, s2 _ _ hbs, T.c_Station, T.n_Station_name, rfl, ?_⟩
    refine ⟨_, rfl, _, _, _, _, _, rfl, s2 _ _ MO.ob, T.c_Model, T.n_Model_classes, rfl, _, rfl, _, rfl, _, _, rfl, rfl, _, _, _, _, rfl, rfl, SqT.of (s2 _ _ hb), x2, _, _, _, _, rfl, rfl, SqL.of (s2 _ _ MO.cl), words_at (List.getElem?_eq_getElem rr.2), by show 2 ≤ sizeLine; decide, fun q hq => ?_⟩
    rw [n1, n2]
    have s3 := Same.new (o := .lst [.str (sT (Lrx9.stationName M pt.1)), .str (sT (Lrx9.className M pt.2))]) hq
    refine ⟨p, q, _, _, rfl, rfl, s3 _ _ e2, upd_same, ?_, _, rfl, (s2.trans s3).put hp, ?_⟩
    · rw [words_len, plW_len, List.length_take]
      show _ + 2 ≤ _
      omega
    · rw [upd_same, take_next hpi, List.flatMap_append, words_app]
      simp [plW, words]
  · rintro σ H2 ⟨v3, rfl, s2, e2⟩
    rw [List.take_length] at e2
    exact ⟨_, rfl, hQ p H2 s2 hp e2⟩
end Q
set_option Elab.async false
set_option linter.all false
set_option maxRecDepth 100000
set_option maxHeartbeats 4000000
namespace Q
open PySem PySem.Spec PyProof.Rows L2
open PySem.W (EachIs dataLe dataLe_rows dataLt dataLt_tuple dataLt_list alike alikeAll AllAlike sorted_data)
/-! ### sorted(xs), tuples of ints, any number of them -/
def rSortTu (K : PySem.W.Frag) : List V → Hp → VK → Prop := fun vs H Q => ∃ (a : Addr) (bs : List (Addr × List Int)) (n : Nat), vs = [V.ref a] ∧ SqL K H a (bs.map fun b => V.ref b.1) ∧ (∀ b ∈ bs, SqT K H b.1 (b.2.map V.int) ∧ b.2.length = n + 1) ∧
  ∀ (ys : List (Addr × List Int)) (p : Addr), ys.Perm bs → ys.Pairwise (fun x y => x.2 ≤ y.2) → H p = none → Q (.ref p) (upd H p (.lst (ys.map fun b => V.ref b.1)))
theorem each_of {α β : Type} {R : α → β → Prop} {f : β → α} : ∀ {bs : List β}, (∀ b ∈ bs, R (f b) b) → EachIs R (bs.map f) bs
  | [], _ => .nil
  | b :: bs, h => .cons (h b List.mem_cons_self) (each_of fun c m => h c (List.mem_cons_of_mem _ m))
theorem each_eq {α β : Type} {f : β → α} : ∀ {vs : List α} {bs : List β}, EachIs (fun v b => v = f b) vs bs → vs = bs.map f
  | _, _, .nil => rfl
  | _, _, .cons h r => by rw [h, each_eq r]; rfl
theorem refs_vals : ∀ {bs : List (Addr × List Int)} {us : List Value}, Vals (bs.map fun b => V.ref b.1) us → us = bs.map fun b => Value.ref b.1
  | [], _, .nil => rfl
  | b :: bs, _ :: us, .cons r t => by
    obtain rfl : _ = Value.ref b.1 := r
    rw [refs_vals t]
    rfl
theorem vals_refs : ∀ bs : List (Addr × List Int), Vals (bs.map fun b => V.ref b.1) (bs.map fun b => Value.ref b.1)
  | [] => .nil
  | b :: bs => .cons rfl (vals_refs bs)
def tupD (l : List Int) : PyData := .tuple (l.map .int)
theorem tup_le : dataLe false (fun b : Addr × List Int => tupD b.2) = fun p q => decide (p.2 ≤ q.2) := by
  rw [← dataLe_rows (fun b : Addr × List Int => b.2)]
  funext p q
  show (!dataLt (.tuple _) (.tuple _)) = (!dataLt (.list _) (.list _))
  rw [dataLt_tuple, dataLt_list]
theorem ints_dpAll {K : PySem.W.Frag} {H : Hp} : ∀ l : List Int, DpAll K H (l.map V.int) (l.map PyData.int)
  | [] => .nil
  | i :: l => .cons (.int i) (ints_dpAll l)
theorem tup_alike (a b : List Int) : alike (tupD a) (tupD b) = true := by
  have all : ∀ a b : List Int, alikeAll (a.map PyData.int) (b.map PyData.int) = true := by
    intro a
    induction a with
    | nil => intro b; rw [List.map_nil, alikeAll]
    | cons x a ih =>
      intro b
      cases b with
      | nil => rw [List.map_nil, List.map_cons, alikeAll]
      | cons y b => rw [List.map_cons, List.map_cons, alikeAll, ih b, alike]; rfl
  unfold tupD
  rw [alike]
  exact all a b
theorem tup_depth (l : List Int) : (tupD l).depth ≤ 1 := by
  have all : ∀ l : List Int, PyData.depthAll (l.map PyData.int) ≤ 0 := by
    intro l
    induction l with
    | nil => simp [PyData.depthAll]
    | cons b r ih =>
      simp only [List.map_cons, PyData.depthAll, PyData.depth]
      omega
  have := all l
  unfold tupD
  simp only [PyData.depth]
  omega
theorem call_sortedT {X : Cx} (hu : X.A.units + 64 < PySem.cLine) : CallR X (.builtin "sorted") (rSortTu X.K) := by
  intro pins s σ H vs us Q I r h
  obtain ⟨a, bs, n, rfl, hs, hb, q⟩ := h
  obtain ⟨its, rv, hl, hz⟩ := I.list hs
  rw [Vals.ref1 r]
  obtain rfl := refs_vals rv
  rw [List.length_map] at hz
  refine sorted_data (R := fun v b => v = Value.ref b.1) (enc := fun b => tupD b.2) (bs := bs) hl.isList (each_of fun b m => rfl) (each_of fun b m => ?_) ?_ ?_ hz (fun b m => ?_) fun out ho eo => ?_
  · exact Dp.reads I (tupD b.2) (.ref b.1) (.ref b.1) (.tup (hb b m).1 (ints_dpAll _)) rfl
  · rintro d hd d' hd'
    obtain ⟨b, m, rfl⟩ := List.mem_map.mp hd
    obtain ⟨b', m', rfl⟩ := List.mem_map.mp hd'
    exact tup_alike _ _
  · left
    rintro d hd
    obtain ⟨b, m, rfl⟩ := List.mem_map.mp hd
    have := (hb b m).2
    cases e : b.2 with
    | nil => rw [e] at this; cases this
    | cons x r => exact ⟨.int x, r.map .int, rfl⟩
  · have := tup_depth b.2
    omega
  · have eo := each_eq eo
    have hp : (bs.mergeSort (dataLe false fun b => tupD b.2)).Perm bs := List.mergeSort_perm ..
    have hs : (bs.mergeSort (dataLe false fun b => tupD b.2)).Pairwise (fun x y => x.2 ≤ y.2) := by
      have k := PySem.W.sort_pairwise (PySem.W.sortLe_total (listOrd itemOrd) false fun b : Addr × List Int => PySem.W.keyToks (tupD b.2)) bs
      refine k.imp fun {x y} h => ?_
      have h : dataLe false (fun b : Addr × List Int => tupD b.2) x y = true := h
      rw [tup_le] at h
      exact of_decide_eq_true h
    generalize bs.mergeSort (dataLe false fun b => tupD b.2) = ys at *
    subst eo
    obtain ⟨ep, he'⟩ := PyProof.Rows.sortedAll_at s.heap (bs.map fun b => Value.ref b.1) (ys.map fun b => Value.ref b.1).toArray
    have hlen : (ys.map fun b => V.ref b.1).length ≤ sizeLine := by
      rw [List.length_map, hp.length_eq]
      exact hz
    exact ⟨.ref _, upd H (s.heap.objs.size + 1) (.lst (ys.map fun b => V.ref b.1)), I.laid (t' := s.toks) (fun _ _ => PyProof.Rows.sortedAll_old) (Nat.le_succ _) ⟨hlen, ys.map fun b => Value.ref b.1, ep, vals_refs ys, he'⟩, rfl, q _ _ hp hs (I.hok.fresh (Nat.le_succ _))⟩
end Q
set_option Elab.async false
set_option linter.all false
set_option maxRecDepth 100000
set_option maxHeartbeats 4000000
namespace Q
open PySem PySem.Spec PyProof.Rows L2
/-! ### places in order -/
def pls2 (e : Lrx9.Entry) : List (Nat × Nat) := [(e.station, e.class_)]
def pls4 (e : Lrx9.Entry) : List (Nat × Nat) := [(e.station, e.class_), (e.toStation, e.toClass)]
def kInt (ns : List Nat) : List Int := ns.map fun (n : Nat) => (n : Int)
theorem pl_lt {ns nc : Nat} {a b : Lrx9.Entry} (ha : Qu.PlR ns nc a) (hb : Qu.PlR ns nc b) (n1 : ns ≤ 8) (n2 : nc ≤ 4) (h : Qu.code a < Qu.code b) : kInt (flat2 (pls2 a)) < kInt (flat2 (pls2 b)) := by
  obtain ⟨a1, a2, a3, a4⟩ := ha
  obtain ⟨b1, b2, b3, b4⟩ := hb
  unfold Qu.code at h
  show [(a.station : Int), (a.class_ : Int)] < [(b.station : Int), (b.class_ : Int)]
  simp only [List.cons_lt_cons_iff, List.not_lt_nil, and_false, or_false]
  omega
theorem ro_lt {ns nc : Nat} {a b : Lrx9.Entry} (ha : Qu.RoR ns nc a) (hb : Qu.RoR ns nc b) (n1 : ns ≤ 8) (n2 : nc ≤ 4) (h : Qu.code a < Qu.code b) : kInt (flat2 (pls4 a)) < kInt (flat2 (pls4 b)) := by
  obtain ⟨a1, a2, a3, a4⟩ := ha
  obtain ⟨b1, b2, b3, b4⟩ := hb
  unfold Qu.code at h
  show [(a.station : Int), (a.class_ : Int), (a.toStation : Int), (a.toClass : Int)] < [(b.station : Int), (b.class_ : Int), (b.toStation : Int), (b.toClass : Int)]
  simp only [List.cons_lt_cons_iff, List.not_lt_nil, and_false, or_false]
  omega
theorem keys_sorted {P : Lrx9.Entry → Prop} {l : List Lrx9.Entry} {k : Lrx9.Entry → List Int} (en : Qu.EnOk P l) (mono : ∀ a b, P a → P b → Qu.code a < Qu.code b → k a < k b) {ks : List (List Int)} (p : ks.Perm (l.map k)) (s : ks.Pairwise (· ≤ ·)) : ks = l.map k := by
  refine List.Perm.eq_of_pairwise (le := (· ≤ ·)) (fun a b _ _ h1 h2 => List.le_antisymm h1 h2) s ?_ p
  rw [List.pairwise_map]
  exact en.so.imp_of_mem fun {a b} ha hb h => Std.le_of_lt (mono a b (en.rg a ha) (en.rg b hb) h)
/-- addresses of keys, each with its entry -/
theorem keys_back {l : List Lrx9.Entry} {k : Lrx9.Entry → List Int} {ys : List (Addr × List Int)} (h : ys.map (·.2) = l.map k) : Paired (fun (y : Addr × List Int) e => y.2 = k e) ys l := by
  induction ys generalizing l with
  | nil =>
    cases l with
    | nil => exact .nil
    | cons e l => cases h
  | cons y ys ih =>
    cases l with
    | nil => cases h
    | cons e l =>
      injection h with h1 h2
      exact .cons h1 (ih h2)
def RowW (H : Hp) (y : V) (ws : List (List Nat)) : Prop := ∃ a, y = .ref a ∧ H a = some (.lst (words ws))
end Q
set_option Elab.async false
set_option linter.all false
set_option maxRecDepth 100000
set_option maxHeartbeats 4000000
namespace Q
open PySem PySem.Spec PyProof.Rows L2
def rowOf (M : Lrx9.Model) (wd : List Nat) (pls : Lrx9.Entry → List (Nat × Nat)) (e : Lrx9.Entry) : List (List Nat) := wd :: ((pls e).flatMap (plW M) ++ [Lrx9.fractionText e.value])
structure TabS (w : World) (M : Lrx9.Model) (key : Lrx9.Entry → List Key) (P : Lrx9.Entry → Prop) (pls : Lrx9.Entry → List (Nat × Nat)) (n : Nat) (l : List Lrx9.Entry) : Prop where
  ok : KeyOk w key P
  sm : ∀ e, P e → Qu.Sm e
  en : Qu.EnOk P l
  ke : ∀ e, key e = (kInt (flat2 (pls e))).map Sum.inl
  ln : ∀ e, (pls e).length = n
  n2 : n = 1 ∨ n = 2
  rg : ∀ e, P e → ∀ p ∈ pls e, p.1 < M.stations.length ∧ p.2 < M.classes.length
  mono : ∀ a b, P a → P b → Qu.code a < Qu.code b → kInt (flat2 (pls a)) < kInt (flat2 (pls b))
theorem TabS.inj {w : World} {M : Lrx9.Model} {key : Lrx9.Entry → List Key} {P : Lrx9.Entry → Prop} {pls : Lrx9.Entry → List (Nat × Nat)} {n : Nat} {l : List Lrx9.Entry} (t : TabS w M key P pls n l) {a b : Lrx9.Entry} (ha : a ∈ l) (hb : b ∈ l) (h : kInt (flat2 (pls a)) = kInt (flat2 (pls b))) : a = b := by
  refine code_inj t.en.so ha hb ?_
  rcases Nat.lt_trichotomy (Qu.code a) (Qu.code b) with z | z | z
  · have := t.mono a b (t.en.rg a ha) (t.en.rg b hb) z
    rw [h] at this
    exact absurd this (List.lt_irrefl _)
  · exact z
  · have := t.mono b a (t.en.rg b hb) (t.en.rg a ha) z
    rw [h] at this
    exact absurd this (List.lt_irrefl _)
theorem kInt_v (ns : List Nat) : (kInt ns).map V.int = vN ns := by
  unfold kInt vN
  rw [List.map_map]
  rfl
theorem inl_kV (l : List Int) : (l.map (Sum.inl : Int → Key)).map kV = l.map V.int := by
  rw [List.map_map]
  rfl
theorem pairs_of {K : PySem.W.Frag} {H : Hp} {key : Lrx9.Entry → List Key} {k : Lrx9.Entry → List Int} (hk : ∀ e, key e = (k e).map Sum.inl) : ∀ {kvs : List (List Key × V)} {es : List Lrx9.Entry} {bs : List Addr}, Paired (fun (kv : List Key × V) (e : Lrx9.Entry) => kv.1 = key e ∧ FrV K H kv.2 e.value) kvs es → IsKeys H kvs bs →
    ∃ ps : List (Addr × List Int), bs = ps.map (·.1) ∧ ps.map (·.2) = es.map k ∧ ∀ b ∈ ps, H b.1 = some (.tup (b.2.map V.int))
  | _, _, _, .nil, .nil => ⟨[], rfl, rfl, fun b hb => by cases hb⟩
  | kv :: _, e :: _, b :: _, .cons h r, .cons h2 r2 => by
    obtain ⟨ps, e1, e2, e3⟩ := pairs_of hk r r2
    refine ⟨(b, k e) :: ps, by rw [e1]; rfl, by rw [List.map_cons, e2]; rfl, fun c hc => ?_⟩
    rcases List.mem_cons.mp hc with rfl | hc
    · rw [h2, h.1, hk, inl_kV]
    · exact e3 c hc
def sp_value_rows (K : PySem.W.Frag) : Sp := sp3 fun a b c H Q _ => ∃ (d : MD) (M : Lrx9.Model) (w : World) (t : Addr) (wd : List Nat) (key : Lrx9.Entry → List Key) (P : Lrx9.Entry → Prop) (pls : Lrx9.Entry → List (Nat × Nat)) (n : Nat) (l : List Lrx9.Entry),
  a = .ref d.a ∧ b = .str (sT wd) ∧ c = .ref t ∧ TabV K H key t l ∧ TabS w M key P pls n l ∧ MdO K H d M ∧
  ∀ q vs H', Same H H' → H q = none → H' q = some (.lst vs) → Paired (fun v e => RowW H' v (rowOf M wd pls e)) vs l → Q (.ref q) H'
theorem vN_inj : ∀ {a b : List Nat}, vN a = vN b → a = b
  | [], [], _ => rfl
  | [], _ :: _, h => by cases h
  | _ :: _, [], h => by cases h
  | x :: a, y :: b, h => by
    have h : V.int (x : Int) :: vN a = V.int (y : Int) :: vN b := h
    injection h with h1 h2
    injection h1 with h1
    rw [vN_inj h2]
    congr 1
    omega
theorem rows_join {H H' : Hp} {Dv : V} {k : Lrx9.Entry → List Int} {f : Lrx9.Entry → List (List Nat)} {L : List Lrx9.Entry} : ∀ {ys : List (Addr × List Int)} {l : List Lrx9.Entry} {vs : List V}, Paired (fun (y : Addr × List Int) e => y.2 = k e) ys l →
    Paired (fun x z => z ≠ Dv ∧ ∀ e ∈ L, (∀ a, x = V.ref a → H a = some (.tup ((k e).map V.int))) → RowW H' z (f e)) (ys.map fun b => V.ref b.1) vs → (∀ e ∈ l, e ∈ L) → (∀ b ∈ ys, H b.1 = some (.tup (b.2.map V.int))) → Paired (fun v e => RowW H' v (f e)) vs l
  | _, _, _, .nil, .nil, _, _ => .nil
  | y :: ys, e :: l, v :: vs, .cons h r, .cons h2 r2, sub, y3 => by
    refine .cons (h2.2 e (sub e List.mem_cons_self) fun a ea => ?_) (rows_join r r2 (fun e he => sub e (List.mem_cons_of_mem _ he)) fun b hb => y3 b (List.mem_cons_of_mem _ hb))
    injection ea with ea
    rw [← ea, y3 y List.mem_cons_self, h]
theorem kInt_len (ns : List Nat) : (kInt ns).length = ns.length := List.length_map ..
theorem ok_value_rows {w : World} {K : PySem.W.Frag} {mg : Str → Option Value} {base : Heap} (T : Txt w K mg) : OKF w K mg base (CX0) 2 d_value_rows ["model", "word", "values"] (sp_value_rows K) := by
  refine okf_mk (k := 1) T 16 rfl sc_value_rows rfl rfl (fun _ _ _ _ _ _ us hl => match us, hl with | [_, _, _], _ => rfl) sp3_len (fun f cdv A outer s H vs Q E hr h => ?_)
  have hu := hu_of hr
  have hu64 := hr.units
  refine ⟨_, (PSs.nox (pss_one (ps_ret (pe_lc (own := [("place", 3)]) (g := gName 3) (tt := tYes) rfl sc_value_rows.nd (pi_list (pe_callB (call_sortedT hu64) rfl T.f_sorted (by decide +kernel) (pa_cons (pe_callTy (call_list_dT rfl) rfl T.f_list (by decide +kernel) (pa_cons (pv 2) pa_nil)) pa_nil))) (blkOk_by (N := N_value_rows) (sc := defScope s_value_rows) (by decide +kernel)) (fun _ _ _ _ _ => (pg_name (i := 3) sc_value_rows.nd rfl (Or.inl rfl))) (fun _ _ _ _ _ => pts_nil) (fun _ _ _ _ _ => (pe_op op_cat (pe_op op_cat (pe_lst (pa_cons (pv 1) pa_nil)) (pe_ok (ok_place_words T) (hr.mono (by decide)) rfl T.g_place_words pass0 (pa_cons (pv 0) (pa_cons (pv 3) pa_nil)))) (pe_lst (pa_cons (pe_ok (ok_value_word T) (hr.mono (by decide)) rfl T.g_value_word pass0 (pa_cons (pe_dget hu (pv 2) (pv 3) (fun _ _ => rfl)) pa_nil)) pa_nil)))))))), ?_⟩
  obtain ⟨_, _, _, rfl, d, M, w', t, wd, key, P, pls, n, l, rfl, rfl, rfl, TV, TS, MO, hQ⟩ := h
  obtain ⟨kvs, es, hk, pr, pm⟩ := id TV
  refine ⟨_, rfl, t, kvs, rfl, .inl hk, fun p bs hp ik => ?_⟩
  obtain ⟨ps, rfl, e2, e3⟩ := pairs_of (k := fun e => kInt (flat2 (pls e))) TS.ke pr ik
  have s1 : Same H (upd H p (.lst ((ps.map (·.1)).map V.ref))) := Same.new hp
  have f1 : (upd H p (.lst ((ps.map (·.1)).map V.ref))) p = some (.lst (ps.map fun b => V.ref b.1)) := by
    rw [upd_same, List.map_map]
    rfl
  generalize upd H p (.lst ((ps.map (·.1)).map V.ref)) = H1 at *
  refine ⟨p, ps, 2 * n - 1, rfl, SqL.of f1, fun b hb => ⟨SqT.of (s1 _ _ (e3 b hb)), ?_⟩, fun ys q yp yo hq => ?_⟩
  · have m : b.2 ∈ ps.map (·.2) := List.mem_map.mpr ⟨b, hb, rfl⟩
    rw [e2] at m
    obtain ⟨e, -, he⟩ := List.mem_map.mp m
    rw [← he, kInt_len, flat2_len, TS.ln]
    rcases TS.n2 with z | z <;> omega
  · have yk : ys.map (·.2) = l.map fun e => kInt (flat2 (pls e)) := by
      refine keys_sorted TS.en TS.mono ?_ (List.pairwise_map.mpr yo)
      refine (yp.map _).trans ?_
      rw [e2]
      exact pm.map _
    have yb := keys_back yk
    have y3 : ∀ b ∈ ys, H b.1 = some (.tup (b.2.map V.int)) := fun b hb => e3 b (yp.subset hb)
    have s2 : Same H1 (upd H1 q (.lst (ys.map fun b => V.ref b.1))) := Same.new hq
    have f2 : (upd H1 q (.lst (ys.map fun b => V.ref b.1))) q = some (.lst (ys.map fun b => V.ref b.1)) := upd_same
    generalize upd H1 q (.lst (ys.map fun b => V.ref b.1)) = H2 at *
    have s02 := s1.trans s2
    have ylen : ys.length = l.length := paired_len yb
    have l1024 := (TS.en.ord TS.sm).len
    have big : (100000 : Nat) ≤ sizeLine := by decide
    refine ⟨q, rfl, ⟨_, SqL.of f2⟩, fun D hD => ?_⟩
    refine lc_keep (xs := ys.map fun b => V.ref b.1) (fun _ => true) (fun x z H' => z ≠ V.ref D ∧ ∀ e ∈ l, (∀ a, x = V.ref a → H a = some (.tup ((kInt (flat2 (pls e))).map V.int))) → RowW H' z (rowOf M wd pls e)) (fun x y H' H'' bt r => ⟨r.1, fun e he hx => ?_⟩) hD (SqL.of f2) (by rw [List.length_map]; omega) (fun _ => rfl) (fun x H' Q' m s q => q H' (Same.refl _)) ?_ ?_
    · obtain ⟨ay, rfl, h⟩ := r.2 e he hx
      exact ⟨ay, rfl, bt _ _ (fun z => r.1 (by rw [z])) h⟩
    · rintro x H' Q' hx - s3 ⟨oD, hoD⟩ qq
      obtain ⟨y, hy, rfl⟩ := List.mem_map.mp hx
      obtain ⟨e, he, hye⟩ := paired_left yb y hy
      have hy3 := y3 y hy
      rw [hye] at hy3
      have s03 := s02.trans s3
      refine ⟨_, rfl, by show 1 ≤ sizeLine; decide, fun p1 hp1 => ?_⟩
      have t1 : Same H' (upd H' p1 (.lst [.str (sT wd)])) := Same.new hp1
      have g1 : (upd H' p1 (.lst [V.str (sT wd)])) p1 = some (.lst (words [wd])) := upd_same
      generalize upd H' p1 (.lst [V.str (sT wd)]) = A1 at *
      have u1 := s03.trans t1
      refine ⟨_, rfl, _, rfl, _, _, rfl, d, M, y.1, pls e, rfl, rfl, ?_, ?_, TS.rg e (TS.en.rg e he), MO.same u1, fun q1 A2 t2 n2 g2 => ?_⟩
      · rw [u1 _ _ hy3, kInt_v]
      · rw [TS.ln]
        exact TS.n2
      · have pl : (pls e).length ≤ 2 := by
          rw [TS.ln]
          rcases TS.n2 with z | z <;> omega
        refine ⟨p1, q1, _, _, rfl, rfl, t2 _ _ g1, g2, ?_, fun p2 hp2 => ?_⟩
        · rw [words_len, words_len, plW_len]
          show 1 + _ ≤ _
          omega
        have t3 : Same A2 (upd A2 p2 (.lst (words [wd] ++ words ((pls e).flatMap (plW M))))) := Same.new hp2
        have g3 : (upd A2 p2 (.lst (words [wd] ++ words ((pls e).flatMap (plW M))))) p2 = some (.lst (words ([wd] ++ (pls e).flatMap (plW M)))) := by
          rw [upd_same, words_app]
        generalize upd A2 p2 (.lst (words [wd] ++ words ((pls e).flatMap (plW M)))) = A3 at *
        have u3 := (u1.trans t2).trans t3
        have TV3 : TabV K A3 key t l := TV.fm (S := fun _ => False) u3.fm id
        have vv := value_in_ TS.en.so (fun y hy => TS.sm y (TS.en.rg y hy)) (TS.sm e (TS.en.rg e he)) he (Qu.same_refl e)
        obtain ⟨o, g, fv, iff⟩ := tab_get (e := e) (b := y.1) (z := .ref (He.ga K "NOUGHT")) TV3 TS.ok TS.sm TS.en (TS.en.rg e he) (by rw [u3 _ _ hy3, TS.ke, inl_kV]) ⟨_, rfl, T.t_NOUGHT A3⟩
        rw [vv] at fv iff
        cases o with
        | none => exact absurd (iff.mp rfl) (TS.en.vs e he).nz
        | some v =>
          refine ⟨_, rfl, _, rfl, t, v, rfl, g, _, rfl, e.value, fv, (TS.en.vs e he).short, by show 1 ≤ sizeLine; decide, fun p3 hp3 => ?_⟩
          have t4 : Same A3 (upd A3 p3 (.lst [.str (sT (Lrx9.fractionText e.value))])) := Same.new hp3
          have g4 : (upd A3 p3 (.lst [V.str (sT (Lrx9.fractionText e.value))])) p3 = some (.lst (words [Lrx9.fractionText e.value])) := upd_same
          generalize upd A3 p3 (.lst [V.str (sT (Lrx9.fractionText e.value))]) = A4 at *
          refine ⟨p2, p3, _, _, rfl, rfl, t4 _ _ g3, g4, ?_, fun p4 hp4 => ?_⟩
          · rw [words_len, words_len, List.length_append, plW_len]
            show 1 + _ + 1 ≤ _
            omega
          · have ut := ((t1.trans t2).trans t3).trans t4
            refine qq _ _ (ut.to hp4) ⟨fun z => ?_, fun e' he' hx' => ?_⟩
            · injection z with z
              rw [z, ut _ _ hoD] at hp4
              cases hp4
            · have k := hx' y.1 rfl
              rw [hy3] at k
              injection k with k
              injection k with k
              rw [kInt_v, kInt_v] at k
              have k2 : flat2 (pls e) = flat2 (pls e') := by
                exact vN_inj k
              have ee : e = e' := TS.inj he he' (by rw [k2])
              subst ee
              refine ⟨p4, rfl, ?_⟩
              rw [upd_same, ← words_app]
              rfl
    · intro vs H' s3 eD pr3
      rw [List.filter_eq_self.mpr (fun _ _ => rfl)] at pr3
      have nq : ∀ {b}, H' b = none → H b = none := fun {b} e => (s02.trans s3).no b e
      exact hQ D vs H' (s02.trans s3) (s02.no D hD) eD (rows_join yb pr3 (fun e he => he) y3)
end Q
set_option Elab.async false
set_option linter.all false
set_option maxRecDepth 100000
set_option maxHeartbeats 4000000
namespace Q
open PySem PySem.Spec PyProof.Rows L2
theorem dis_words2 : (["fifo", "lifo", "share", "delay"] : List Str) = [sT (Lrx9.keyword 8), sT (Lrx9.keyword 9), sT (Lrx9.keyword 10), sT (Lrx9.keyword 11)] := by decide +kernel
theorem dis_at {K : PySem.W.Frag} {n : Nat} (h : n < 4) : atI (t_DISCIPLINES.map (He.Dv.v K)) (n : Int) = some (.str (sT (Lrx9.keyword (8 + n)))) := by
  rw [show t_DISCIPLINES.map (He.Dv.v K) = (["fifo", "lifo", "share", "delay"] : List Str).map V.str from rfl, dis_words2]
  refine atI_nat ?_
  match n, h with
  | 0, _ => rfl
  | 1, _ => rfl
  | 2, _ => rfl
  | 3, _ => rfl
theorem k_station : ("station" : Str) = sT (Lrx9.keyword 2) := by decide +kernel
theorem k_servers : ("servers" : Str) = sT (Lrx9.keyword 12) := by decide +kernel
theorem k_capacity : ("capacity" : Str) = sT (Lrx9.keyword 13) := by decide +kernel
theorem small_log {n : Nat} (h : n ≤ 1000) : (n : Int).natAbs.log2 < 1920 := log_small (by
  rw [Int.natAbs_natCast]
  omega)
def staRow (s : Lrx9.Station) : List (List Nat) := [Lrx9.keyword 2, s.name, Lrx9.keyword (8 + s.discipline), Lrx9.keyword 12, Lrx9.natText s.servers] ++ (if s.capacity = 0 then [] else [Lrx9.keyword 13, Lrx9.natText s.capacity])
def sp_station_row (K : PySem.W.Frag) : Sp := sp1 fun a H Q _ => ∃ s : Lrx9.Station, StaV K H a s ∧ s.discipline < 4 ∧ s.servers ≤ 1000 ∧ s.capacity ≤ 1000 ∧ ∀ q H', Same H H' → H q = none → H' q = some (.lst (words (staRow s))) → Q (.ref q) H'
theorem ok_station_row {w : World} {K : PySem.W.Frag} {mg : Str → Option Value} {base : Heap} (T : Txt w K mg) : OKF w K mg base (CX0) 1 d_station_row ["station"] (sp_station_row K) := by
  refine okf_mk (k := 0) T 17 rfl sc_station_row rfl rfl (fun _ _ _ _ _ _ us hl => match us, hl with | [_], _ => rfl) sp1_len (fun f cdv A outer s H vs Q E hr h => ?_)
  refine ⟨_, (PSs.nox (pss_cons (ps_set (i := 1) sc_station_row.nd rfl (Or.inl rfl) (pe_lst (pa_cons pe_str (pa_cons (pe_fld (pv 0) rfl) (pa_cons (pe_ix ix_tup (pe_gref rfl (T.g_DISCIPLINES)) (pe_fld (pv 0) rfl) (fun _ _ => rfl)) (pa_cons pe_str (pa_cons (pe_callTy call_str_int rfl T.f_str (by decide +kernel) (pa_cons (pe_fld (pv 0) rfl) pa_nil)) pa_nil)))))))
      (pss_one (ps_ret (pe_op op_cat (pv 1) (pe_ifExp (pt_cmpR op_gt (pe_fld (pv 0) rfl) pe_int (nomark _)) (pe_lst (pa_cons pe_str (pa_cons (pe_callTy call_str_int rfl T.f_str (by decide +kernel) (pa_cons (pe_fld (pv 0) rfl) pa_nil)) pa_nil))) (pe_lst pa_nil))))))), ?_⟩
  obtain ⟨_, rfl, s, ⟨b, bx, rfl, hb⟩, h1, h2, h3, hQ⟩ := h
  refine ⟨_, rfl, _, _, _, _, _, rfl, hb, T.c_Station, T.n_Station_name, rfl, _, rfl, _, _, _, _, _, rfl, hb, T.c_Station, T.n_Station_discipline, rfl, _, _, _, _, rfl, rfl, T.t_DISCIPLINES H, dis_at h1, _, rfl, _, _, _, _, _, rfl, hb, T.c_Station, T.n_Station_servers, rfl, _, rfl, small_log h2, by show 5 ≤ sizeLine; decide, fun p hp => ?_⟩
  rw [show (toString (s.servers : Int) : Str) = sT (Lrx9.natText s.servers) from str_nat _]
  rw [k_station, k_servers]
  have s1 : Same H (upd H p (.lst [.str (sT (Lrx9.keyword 2)), .str (sT s.name), .str (sT (Lrx9.keyword (8 + s.discipline))), .str (sT (Lrx9.keyword 12)), .str (sT (Lrx9.natText s.servers))])) := Same.new hp
  have f1 : (upd H p (.lst [V.str (sT (Lrx9.keyword 2)), .str (sT s.name), .str (sT (Lrx9.keyword (8 + s.discipline))), .str (sT (Lrx9.keyword 12)), .str (sT (Lrx9.natText s.servers))])) p = some (.lst (words [Lrx9.keyword 2, s.name, Lrx9.keyword (8 + s.discipline), Lrx9.keyword 12, Lrx9.natText s.servers])) := upd_same
  generalize upd H p (.lst [V.str (sT (Lrx9.keyword 2)), .str (sT s.name), .str (sT (Lrx9.keyword (8 + s.discipline))), .str (sT (Lrx9.keyword 12)), .str (sT (Lrx9.natText s.servers))]) = H1 at *
  refine ⟨_, rfl, _, rfl, _, _, _, _, _, rfl, s1 _ _ hb, T.c_Station, T.n_Station_capacity, rfl, _, _, rfl, rfl, _, rfl, ite2 (fun c => ?_) (fun c => ?_)⟩
  · have c0 : s.capacity ≠ 0 := by
      have := of_decide_eq_true c
      omega
    refine ⟨_, rfl, _, _, _, _, _, rfl, s1 _ _ hb, T.c_Station, T.n_Station_capacity, rfl, _, rfl, small_log h3, by show 2 ≤ sizeLine; decide, fun q hq => ?_⟩
    rw [show (toString (s.capacity : Int) : Str) = sT (Lrx9.natText s.capacity) from str_nat _, k_capacity]
    refine ⟨p, q, _, _, rfl, rfl, Same.new hq _ _ f1, upd_same, by show 7 ≤ sizeLine; decide, fun r hr => ?_⟩
    refine hQ r _ ((s1.to hq).to hr) ((s1.to hq).no r hr) ?_
    rw [upd_same]
    unfold staRow
    rw [if_neg c0]
    rfl
  · have c0 : s.capacity = 0 := by
      have : ¬ ((0 : Int) < (s.capacity : Int)) := fun z => c (decide_eq_true z)
      omega
    refine ⟨by show 0 ≤ sizeLine; decide, fun q hq => ?_⟩
    refine ⟨p, q, _, _, rfl, rfl, Same.new hq _ _ f1, upd_same, by show 5 ≤ sizeLine; decide, fun r hr => ?_⟩
    refine hQ r _ ((s1.to hq).to hr) ((s1.to hq).no r hr) ?_
    rw [upd_same]
    unfold staRow
    rw [if_pos c0]
    rfl
end Q
set_option Elab.async false
set_option linter.all false
set_option maxRecDepth 100000
set_option maxHeartbeats 4000000
namespace Q
open PySem PySem.Spec PyProof.Rows L2
theorem blank_s : (" " : Str) = sT [32] := by decide +kernel
theorem join_s : ∀ ws : List (List Nat), Str.join (sT [32]) (ws.map sT) = sT (Lrx9.joined ws)
  | [] => rfl
  | [w] => rfl
  | w :: x :: r => by
    show sT w ++ sT [32] ++ Str.join (sT [32]) ((x :: r).map sT) = _
    rw [join_s (x :: r), sT_app, sT_app]
    rfl
theorem words_str (ws : List (List Nat)) : words ws = (ws.map sT).map V.str := by
  rw [List.map_map]
  rfl
theorem sT_lens (ws : List (List Nat)) : ((ws.map sT).map (·.length)) = ws.map List.length := by
  rw [List.map_map]
  exact List.map_congr_left fun w _ => sT_len w
/-- the rows of the canonical form, word by word -/
def popRow (M : Lrx9.Model) (e : Lrx9.Entry) : List (List Nat) := [Lrx9.keyword 7, Lrx9.className M e.class_, intText e.value.num]
def canRows (M : Lrx9.Model) : List (List (List Nat)) :=
  (M.classes.map fun n => [Lrx9.keyword 1, n]) ++ M.stations.map staRow ++ M.services.map (rowOf M (Lrx9.keyword 3) pls2) ++ M.arrivals.map (rowOf M (Lrx9.keyword 4) pls2)
    ++ M.routes.map (rowOf M (Lrx9.keyword 5) pls4) ++ M.leaving.map (rowOf M (Lrx9.keyword 6) pls2) ++ M.populations.map (popRow M)
theorem can_lines {M : Lrx9.Model} (wf : Qu.Wf M) : (canRows M).map Lrx9.joined = Lrx9.printLines M := by
  have ep : (M.populations.map (popRow M)).map Lrx9.joined = M.populations.map fun e => Lrx9.joined [Lrx9.keyword 7, Lrx9.className M e.class_, Lrx9.fractionText e.value] := by
    rw [List.map_map]
    refine List.map_congr_left fun e he => ?_
    show Lrx9.joined [_, _, intText e.value.num] = _
    rw [frac_text, if_pos (wf.pv e he).1, List.append_nil]
  unfold canRows Lrx9.printLines
  simp only [List.map_append, ep]
  simp only [List.map_map]
  rfl
end Q
set_option Elab.async false
set_option linter.all false
set_option maxRecDepth 100000
set_option maxHeartbeats 4000000
namespace Q
open PySem PySem.Spec PyProof.Rows L2
/-! ### rows are short -/
structure SmallR (ws : List (List Nat)) : Prop where
  n : ws.length ≤ 7
  w : ∀ w ∈ ws, w.length ≤ 20
theorem sum_le {k : Nat} : ∀ {l : List (List Nat)}, (∀ w ∈ l, w.length ≤ k) → (l.map List.length).sum ≤ k * l.length
  | [], _ => by simp
  | x :: l, h => by
    have h1 := h x List.mem_cons_self
    have h2 := sum_le (k := k) (l := l) fun y m => h y (List.mem_cons_of_mem _ m)
    rw [List.map_cons, List.sum_cons, List.length_cons, Nat.mul_succ]
    omega
theorem joined_len : ∀ ws : List (List Nat), (Lrx9.joined ws).length ≤ (ws.map List.length).sum + ws.length
  | [] => by simp [Lrx9.joined]
  | [w] => by simp [Lrx9.joined]
  | w :: x :: r => by
    have h := joined_len (x :: r)
    rw [show Lrx9.joined (w :: x :: r) = w ++ [32] ++ Lrx9.joined (x :: r) from rfl, List.length_append, List.length_append, List.map_cons, List.sum_cons, List.length_cons (a := w)]
    simp only [List.length_singleton]
    omega
theorem SmallR.sum {ws : List (List Nat)} (h : SmallR ws) : (ws.map List.length).sum + ws.length ≤ 147 := by
  have := sum_le h.w
  have := h.n
  omega
theorem kw_len (k : Nat) : (Lrx9.keyword k).length ≤ 20 := by
  unfold Lrx9.keyword
  rw [List.getD_eq_getElem?_getD]
  cases h : Lrx9.keywords[k]? with
  | none => exact Nat.zero_le _
  | some w =>
    have all : ∀ w ∈ Lrx9.keywords, w.length ≤ 20 := by decide
    exact all w (List.mem_of_getElem? h)
theorem cn_len {M : Lrx9.Model} (wf : Qu.Wf M) (r : Nat) : (Lrx9.className M r).length ≤ 20 := by
  unfold Lrx9.className
  rw [List.getD_eq_getElem?_getD]
  cases h : M.classes[r]? with
  | none => exact Nat.zero_le _
  | some w => exact Nat.le_trans (wf.cl w (List.mem_of_getElem? h)).len (by decide)
theorem sn_len {M : Lrx9.Model} (wf : Qu.Wf M) (r : Nat) : (Lrx9.stationName M r).length ≤ 20 := by
  unfold Lrx9.stationName
  cases h : M.stations[r]? with
  | none => exact Nat.zero_le _
  | some s => exact Nat.le_trans (wf.st s (List.mem_of_getElem? h)).1.len (by decide)
theorem ft_len {q : Fr} (h : Lrx9.isShort q = true) : (Lrx9.fractionText q).length ≤ 20 := by
  obtain ⟨h1, h2⟩ := short_nd h
  have l1 := int_small h1
  have l2 := nat_small (n := q.den) (k := 9) (by decide) h2
  rw [frac_text, List.length_append]
  split
  · simp only [List.length_nil]; omega
  · rw [List.length_cons]; omega
theorem row_small {M : Lrx9.Model} (wf : Qu.Wf M) {k : Nat} {pls : Lrx9.Entry → List (Nat × Nat)} (hp : ∀ e, (pls e).length ≤ 2) {e : Lrx9.Entry} (h : Lrx9.isShort e.value = true) : SmallR (rowOf M (Lrx9.keyword k) pls e) := by
  constructor
  · unfold rowOf
    rw [List.length_cons, List.length_append, plW_len]
    have := hp e
    simp only [List.length_singleton]
    omega
  · intro w hw
    unfold rowOf at hw
    rcases List.mem_cons.mp hw with rfl | hw
    · exact kw_len _
    · rcases List.mem_append.mp hw with hw | hw
      · obtain ⟨p, -, hw⟩ := List.mem_flatMap.mp hw
        unfold plW at hw
        simp only [List.mem_cons, List.not_mem_nil, or_false] at hw
        rcases hw with rfl | rfl
        · exact sn_len wf _
        · exact cn_len wf _
      · rw [List.mem_singleton] at hw
        rw [hw]
        exact ft_len h
theorem sta_small {M : Lrx9.Model} (wf : Qu.Wf M) {s : Lrx9.Station} (h : s ∈ M.stations) : SmallR (staRow s) := by
  obtain ⟨h1, h2, h3, h4⟩ := wf.st s h
  have l3 := nat_small (n := s.servers) (k := 9) (by decide) (by omega)
  have l4 := nat_small (n := s.capacity) (k := 9) (by decide) (by omega)
  have l1 := h1.len
  constructor
  · unfold staRow
    split <;> simp
  · intro w hw
    unfold staRow at hw
    rcases List.mem_append.mp hw with hw | hw
    · simp only [List.mem_cons, List.not_mem_nil, or_false] at hw
      rcases hw with rfl | rfl | rfl | rfl | rfl
      · exact kw_len _
      · omega
      · exact kw_len _
      · exact kw_len _
      · omega
    · split at hw
      · cases hw
      · simp only [List.mem_cons, List.not_mem_nil, or_false] at hw
        rcases hw with rfl | rfl
        · exact kw_len _
        · omega
theorem pop_small {M : Lrx9.Model} (wf : Qu.Wf M) {e : Lrx9.Entry} (h : e ∈ M.populations) : SmallR (popRow M e) := by
  obtain ⟨-, h2, h3⟩ := wf.pv e h
  have l1 := int_small (i := e.value.num) (by omega)
  refine ⟨by unfold popRow; simp, fun w hw => ?_⟩
  unfold popRow at hw
  simp only [List.mem_cons, List.not_mem_nil, or_false] at hw
  rcases hw with rfl | rfl | rfl
  · exact kw_len _
  · exact cn_len wf _
  · omega
theorem can_small {M : Lrx9.Model} (wf : Qu.Wf M) : ∀ ws ∈ canRows M, SmallR ws := by
  intro ws hw
  unfold canRows at hw
  have two : ∀ e : Lrx9.Entry, (pls2 e).length ≤ 2 := fun e => by unfold pls2; simp
  have four : ∀ e : Lrx9.Entry, (pls4 e).length ≤ 2 := fun e => by unfold pls4; simp
  rcases List.mem_append.mp hw with hw | hw
  · rcases List.mem_append.mp hw with hw | hw
    · rcases List.mem_append.mp hw with hw | hw
      · rcases List.mem_append.mp hw with hw | hw
        · rcases List.mem_append.mp hw with hw | hw
          · rcases List.mem_append.mp hw with hw | hw
            · obtain ⟨n, hn, rfl⟩ := List.mem_map.mp hw
              refine ⟨by simp, fun w hw => ?_⟩
              simp only [List.mem_cons, List.not_mem_nil, or_false] at hw
              rcases hw with rfl | rfl
              · exact kw_len _
              · exact Nat.le_trans (wf.cl _ hn).len (by decide)
            · obtain ⟨s, hs, rfl⟩ := List.mem_map.mp hw
              exact sta_small wf hs
          · obtain ⟨e, he, rfl⟩ := List.mem_map.mp hw
            exact row_small wf two (wf.sv.vs e he).short
        · obtain ⟨e, he, rfl⟩ := List.mem_map.mp hw
          exact row_small wf two (wf.ar.vs e he).short
      · obtain ⟨e, he, rfl⟩ := List.mem_map.mp hw
        exact row_small wf four (wf.ro.vs e he).short
    · obtain ⟨e, he, rfl⟩ := List.mem_map.mp hw
      exact row_small wf two (wf.le.vs e he).short
  · obtain ⟨e, he, rfl⟩ := List.mem_map.mp hw
    exact pop_small wf he
theorem can_len {M : Lrx9.Model} (wf : Qu.Wf M) : (canRows M).length ≤ 2000 := by
  have z1 := (wf.sv.ord (fun e h => Qu.pl_sm h wf.nst wf.ncl))
  have ol : ∀ {ns nc : Nat} {l : List Lrx9.Entry}, Qu.EnOk (Qu.PlR ns nc) l → ns ≤ 8 → nc ≤ 4 → l.length ≤ 1024 := fun en a b => (en.ord fun e h => Qu.pl_sm h a b).len
  have z4 := wf.ncl
  have z5 := wf.nst
  have m : ∀ {ns nc : Nat} {l : List Lrx9.Entry}, Qu.EnOk (Qu.PlR ns nc) l → ns ≤ 8 → nc ≤ 4 → l.length ≤ 32 := by
    intro ns nc l en a b
    have pw : (l.map fun e => e.station * 4 + e.class_).Pairwise (· < ·) := by
      rw [List.pairwise_map]
      refine en.so.imp_of_mem fun {x y} hx hy h => ?_
      obtain ⟨x1, x2, x3, x4⟩ := en.rg x hx
      obtain ⟨y1, y2, y3, y4⟩ := en.rg y hy
      unfold Qu.code at h
      omega
    have go : ∀ (l : List Nat) (lo hi : Nat), l.Pairwise (· < ·) → (∀ e ∈ l, lo ≤ e ∧ e < hi) → l.length ≤ hi - lo := by
      intro l
      induction l with
      | nil => intro lo hi _ _; exact Nat.zero_le _
      | cons x r ih =>
        intro lo hi h b
        have hp := List.pairwise_cons.mp h
        have b0 := b x List.mem_cons_self
        have := ih (x + 1) hi hp.2 fun e he => ⟨hp.1 e he, (b e (List.mem_cons_of_mem _ he)).2⟩
        rw [List.length_cons]
        omega
    have := go _ 0 32 pw fun k hk => by
      obtain ⟨e, he, rfl⟩ := List.mem_map.mp hk
      obtain ⟨x1, x2, x3, x4⟩ := en.rg e he
      omega
    rw [List.length_map] at this
    omega
  have a1 := m wf.sv wf.nst wf.ncl
  have a2 := m wf.ar wf.nst wf.ncl
  have a3 := (wf.ro.ord fun e h => Qu.ro_sm h wf.nst wf.ncl).len
  have a4 := m wf.le wf.nst wf.ncl
  have a5 := (wf.po.ord fun e h => Qu.po_sm h wf.ncl).len
  have a6 : M.populations.length ≤ 4 := by
    have pw : (M.populations.map fun e => e.class_).Pairwise (· < ·) := by
      rw [List.pairwise_map]
      refine wf.po.so.imp_of_mem fun {x y} hx hy h => ?_
      obtain ⟨x1, x2, x3, x4⟩ := wf.po.rg x hx
      obtain ⟨y1, y2, y3, y4⟩ := wf.po.rg y hy
      unfold Qu.code at h
      omega
    have go : ∀ (l : List Nat) (lo hi : Nat), l.Pairwise (· < ·) → (∀ e ∈ l, lo ≤ e ∧ e < hi) → l.length ≤ hi - lo := by
      intro l
      induction l with
      | nil => intro lo hi _ _; exact Nat.zero_le _
      | cons x r ih =>
        intro lo hi h b
        have hp := List.pairwise_cons.mp h
        have b0 := b x List.mem_cons_self
        have := ih (x + 1) hi hp.2 fun e he => ⟨hp.1 e he, (b e (List.mem_cons_of_mem _ he)).2⟩
        rw [List.length_cons]
        omega
    have := go _ 0 4 pw fun k hk => by
      obtain ⟨e, he, rfl⟩ := List.mem_map.mp hk
      obtain ⟨x1, x2, x3, x4⟩ := wf.po.rg e he
      omega
    rw [List.length_map] at this
    omega
  unfold canRows
  simp only [List.length_append, List.length_map]
  omega
/-- a list gets one row more -/
theorem rows_add {H : Hp} {pb q : Addr} {vs : List V} {rows : List (List (List Nat))} {ws : List (List Nat)} (hv : H pb = some (.lst vs)) (pv : Paired (RowW H) vs rows) (hq : H q = none) :
    ∃ vs', upd (upd H q (.lst (words ws))) pb (.lst (vs ++ [.ref q])) pb = some (.lst vs') ∧ Paired (RowW (upd (upd H q (.lst (words ws))) pb (.lst (vs ++ [.ref q])))) vs' (rows ++ [ws]) := by
  have nq : q ≠ pb := by rintro rfl; rw [hv] at hq; cases hq
  refine ⟨_, upd_same, paired_snoc (F := RowW _) ⟨q, rfl, by rw [upd_ne nq, upd_same]⟩ (paired_impM (fun v hv' row ⟨a, ea, ha⟩ => ⟨a, ea, ?_⟩) pv)⟩
  have na : a ≠ pb := by
    rintro rfl
    rw [hv] at ha
    have e : vs = words row := by
      have z := Option.some.inj ha
      injection z
    rw [e] at hv'
    obtain ⟨t, -, ht⟩ := List.mem_map.mp hv'
    rw [ea] at ht
    cases ht
  have nq2 : a ≠ q := by rintro rfl; rw [ha] at hq; cases hq
  rw [upd_ne na, upd_ne nq2]
  exact ha
end Q
set_option Elab.async false
set_option linter.all false
set_option maxRecDepth 100000
set_option maxHeartbeats 4000000
namespace Q
open PySem PySem.Spec PyProof.Rows L2
def RowsW (H : Hp) (q : Addr) (rows : List (List (List Nat))) : Prop := ∃ vs, H q = some (.lst vs) ∧ Paired (RowW H) vs rows
theorem RowW.same {H H' : Hp} {v : V} {ws : List (List Nat)} (h : RowW H v ws) (s : Same H H') : RowW H' v ws := by
  obtain ⟨a, e, h⟩ := h
  exact ⟨a, e, s _ _ h⟩
theorem RowsW.same {H H' : Hp} {q : Addr} {rows : List (List (List Nat))} (h : RowsW H q rows) (s : Same H H') : RowsW H' q rows := by
  obtain ⟨vs, h1, h2⟩ := h
  exact ⟨vs, s _ _ h1, paired_imp (fun _ _ z => z.same s) h2⟩
theorem paired_map {α β γ : Type} {F : α → γ → Prop} {f : β → γ} : ∀ {l : List α} {m : List β}, Paired (fun a b => F a (f b)) l m → Paired F l (m.map f)
  | _, _, .nil => .nil
  | _, _, .cons h r => .cons h (paired_map r)
theorem paired_app {α β : Type} {F : α → β → Prop} : ∀ {l l2 : List α} {m m2 : List β}, Paired F l m → Paired F l2 m2 → Paired F (l ++ l2) (m ++ m2)
  | _, _, _, _, .nil, h => h
  | _, _, _, _, .cons h r, h2 => .cons h (paired_app r h2)
theorem rows_cat {H : Hp} {a b : Addr} {r1 r2 : List (List (List Nat))} (h1 : RowsW H a r1) (h2 : RowsW H b r2) : ∃ xs ys, H a = some (.lst xs) ∧ H b = some (.lst ys) ∧ xs.length = r1.length ∧ ys.length = r2.length ∧ ∀ p, H p = none → RowsW (upd H p (.lst (xs ++ ys))) p (r1 ++ r2) := by
  obtain ⟨xs, e1, p1⟩ := h1
  obtain ⟨ys, e2, p2⟩ := h2
  exact ⟨xs, ys, e1, e2, paired_len p1, paired_len p2, fun p hp => ⟨xs ++ ys, upd_same, paired_imp (fun _ _ z => z.same (Same.new hp)) (paired_app p1 p2)⟩⟩
abbrev rJoin (K : PySem.W.Frag) : V → List V → Hp → VK → Prop := fun x xs H Q => ∃ a p, ∃ ys : List Str, x = V.str a ∧ xs = [V.ref p] ∧ (SqL K H p (ys.map V.str) ∨ SqT K H p (ys.map V.str)) ∧ (ys.map (·.length)).sum + ys.length * a.length ≤ 16777216 ∧ Q (.str (Txt.join a ys)) H
theorem k_class : ("class" : Str) = sT (Lrx9.keyword 1) := by decide +kernel
theorem rows_words {H : Hp} {Dv : V} {f : List Nat → List (List Nat)} : ∀ {l : List (List Nat)} {vs : List V}, Paired (fun x z => z ≠ Dv ∧ ∀ t, x = V.str (sT t) → RowW H z (f t)) (words l) vs → Paired (RowW H) vs (l.map f)
  | [], _, .nil => .nil
  | n :: l, _, .cons h r => .cons (h.2 n rfl) (rows_words r)
theorem sta_inj {K : PySem.W.Frag} {H : Hp} {v : V} {s s' : Lrx9.Station} (h : StaV K H v s) (h' : StaV K H v s') : s = s' := by
  obtain ⟨b, dx, rfl, h⟩ := h
  obtain ⟨b', dx', e, h'⟩ := h'
  injection e with e
  subst e
  rw [h] at h'
  injection h' with h'
  injection h' with _ _ h'
  unfold staF at h'
  injection h' with e1 h'
  injection h' with e2 h'
  injection h' with e3 h'
  injection h' with e4 h'
  injection e1 with _ e1
  injection e1 with e1
  injection e2 with _ e2
  injection e2 with e2
  injection e3 with _ e3
  injection e3 with e3
  injection e4 with _ e4
  injection e4 with e4
  cases s
  cases s'
  simp only [Lrx9.Station.mk.injEq]
  exact ⟨sT_inj e1, Int.ofNat.inj e2, Int.ofNat.inj e3, Int.ofNat.inj e4⟩
theorem rows_sta {K : PySem.W.Frag} {H H' : Hp} {Dv : V} : ∀ {xs : List V} {l : List Lrx9.Station} {vs : List V}, Paired (StaV K H) xs l → Paired (fun x z => z ≠ Dv ∧ ∀ s, StaV K H x s → RowW H' z (staRow s)) xs vs → Paired (RowW H') vs (l.map staRow)
  | _, _, _, .nil, .nil => .nil
  | _, _, _, .cons h r, .cons h2 r2 => .cons (h2.2 _ h) (rows_sta r r2)
theorem tabS2 {w : World} {M : Lrx9.Model} (wf : Qu.Wf M) {l : List Lrx9.Entry} (en : Qu.EnOk (Qu.PlR M.stations.length M.classes.length) l) : TabS w M key2 (Qu.PlR M.stations.length M.classes.length) pls2 1 l := by
  refine ⟨key2_ok wf.nst wf.ncl, fun e h => Qu.pl_sm h wf.nst wf.ncl, en, fun e => rfl, fun e => rfl, .inl rfl, fun e h p hp => ?_, fun a b ha hb h => pl_lt ha hb wf.nst wf.ncl h⟩
  obtain rfl : p = (e.station, e.class_) := by simpa [pls2] using hp
  exact ⟨h.1, h.2.1⟩
theorem tabS4 {w : World} {M : Lrx9.Model} (wf : Qu.Wf M) {l : List Lrx9.Entry} (en : Qu.EnOk (Qu.RoR M.stations.length M.classes.length) l) : TabS w M key4 (Qu.RoR M.stations.length M.classes.length) pls4 2 l := by
  refine ⟨key4_ok wf.nst wf.ncl, fun e h => Qu.ro_sm h wf.nst wf.ncl, en, fun e => rfl, fun e => rfl, .inr rfl, fun e h p hp => ?_, fun a b ha hb h => ro_lt ha hb wf.nst wf.ncl h⟩
  have hp : p = (e.station, e.class_) ∨ p = (e.toStation, e.toClass) := by simpa [pls4] using hp
  rcases hp with rfl | rfl
  · exact ⟨h.1, h.2.1⟩
  · exact ⟨h.2.2.1, h.2.2.2⟩
theorem k_serve : ("serve" : Str) = sT (Lrx9.keyword 3) := by decide +kernel
theorem k_arrive : ("arrive" : Str) = sT (Lrx9.keyword 4) := by decide +kernel
theorem k_route : ("route" : Str) = sT (Lrx9.keyword 5) := by decide +kernel
theorem k_leave : ("leave" : Str) = sT (Lrx9.keyword 6) := by decide +kernel
theorem k_population : ("population" : Str) = sT (Lrx9.keyword 7) := by decide +kernel
theorem rows_val {H : Hp} {q : Addr} {vs : List V} {f : Lrx9.Entry → List (List Nat)} {l : List Lrx9.Entry} (h : H q = some (.lst vs)) (p : Paired (fun v e => RowW H v (f e)) vs l) : RowsW H q (l.map f) := ⟨vs, h, paired_map p⟩
theorem words_inj : ∀ {a b : List (List Nat)}, words a = words b → a = b
  | [], [], _ => rfl
  | [], _ :: _, h => by cases h
  | _ :: _, [], h => by cases h
  | x :: a, y :: b, h => by
    have h : V.str (sT x) :: words a = V.str (sT y) :: words b := h
    injection h with h1 h2
    injection h1 with h1
    rw [words_inj h2, sT_inj h1]
theorem lines_join {H : Hp} : ∀ {vs ys : List V} {rows : List (List (List Nat))}, Paired (RowW H) vs rows → Paired (fun x z => ∀ ws, RowW H x ws → z = V.str (sT (Lrx9.joined ws))) vs ys → ys = words (rows.map Lrx9.joined)
  | _, _, _, .nil, .nil => rfl
  | _, _, _, .cons h r, .cons h2 r2 => by
    rw [h2 _ h, lines_join r r2]
    rfl
def sp_canonical_lines (K : PySem.W.Frag) : Sp := sp1 fun a H Q _ => ∃ (d : MD) (M : Lrx9.Model), a = .ref d.a ∧ MdO K H d M ∧ Qu.Wf M ∧ ∀ q H', Same H H' → H q = none → H' q = some (.lst (words (Lrx9.printLines M))) → Q (.ref q) H'
theorem ok_canonical_lines {w : World} {K : PySem.W.Frag} {mg : Str → Option Value} {base : Heap} (T : Txt w K mg) : OKF w K mg base (CX0) 3 d_canonical_lines ["model"] (sp_canonical_lines K) := by
  refine okf_mk (k := 2) T 18 rfl sc_canonical_lines rfl rfl (fun _ _ _ _ _ _ us hl => match us, hl with | [_], _ => rfl) sp1_len (fun f cdv A outer s H vs Q E hr h => ?_)
  have hu := hu_of hr
  have hu64 := hr.units
  refine ⟨_, (PSs.nox (pss_cons (ps_set (i := 1) sc_canonical_lines.nd rfl (Or.inl rfl) (pe_op op_cat (pe_lc (own := [("name", 2)]) (g := gName 2) (tt := tYes) rfl sc_canonical_lines.nd (pi_list (pe_fld (pv 0) rfl)) (blkOk_by (N := N_canonical_lines) (sc := defScope s_canonical_lines) (by decide +kernel)) (fun _ _ _ _ _ => (pg_name (i := 2) sc_canonical_lines.nd rfl (Or.inl rfl))) (fun _ _ _ _ _ => pts_nil) (fun _ _ _ _ _ => (pe_lst (pa_cons pe_str (pa_cons (pv 2) pa_nil))))) (pe_lc (own := [("station", 3)]) (g := gName 3) (tt := tYes) rfl sc_canonical_lines.nd (pi_list (pe_fld (pv 0) rfl)) (blkOk_by (N := N_canonical_lines) (sc := defScope s_canonical_lines) (by decide +kernel)) (fun _ _ _ _ _ => (pg_name (i := 3) sc_canonical_lines.nd rfl (Or.inl rfl))) (fun _ _ _ _ _ => pts_nil) (fun _ _ _ _ _ => (pe_ok (ok_station_row T) (hr.mono (by decide)) rfl T.g_station_row pass0 (pa_cons (pv 3) pa_nil))))))
      (pss_cons (ps_set (i := 1) sc_canonical_lines.nd rfl (Or.inl rfl) (pe_op op_cat (pe_op op_cat (pv 1) (pe_ok (ok_value_rows T) (hr.mono (by decide)) rfl T.g_value_rows pass0 (pa_cons (pv 0) (pa_cons pe_str (pa_cons (pe_fld (pv 0) rfl) pa_nil))))) (pe_ok (ok_value_rows T) (hr.mono (by decide)) rfl T.g_value_rows pass0 (pa_cons (pv 0) (pa_cons pe_str (pa_cons (pe_fld (pv 0) rfl) pa_nil))))))
      (pss_cons (ps_set (i := 1) sc_canonical_lines.nd rfl (Or.inl rfl) (pe_op op_cat (pe_op op_cat (pv 1) (pe_ok (ok_value_rows T) (hr.mono (by decide)) rfl T.g_value_rows pass0 (pa_cons (pv 0) (pa_cons pe_str (pa_cons (pe_fld (pv 0) rfl) pa_nil))))) (pe_ok (ok_value_rows T) (hr.mono (by decide)) rfl T.g_value_rows pass0 (pa_cons (pv 0) (pa_cons pe_str (pa_cons (pe_fld (pv 0) rfl) pa_nil))))))
      (pss_cons (ps_for PassesOwn.never rfl (pi_list (pe_callB cr_sortedI rfl T.f_sorted (by decide +kernel) (pa_cons (pe_callTy (call_list_dK rfl) rfl T.f_list (by decide +kernel) (pa_cons (pe_fld (pv 0) rfl) pa_nil)) pa_nil))) (pg_name (i := 4) sc_canonical_lines.nd rfl (Or.inl rfl))
      (pss_one (ps_expr (pe_bm PySem.F.plainAttrs_list PySem.F.slot_list_append PySem.F.type_list_append mt_append (pv 1) (pa_cons (pe_lst (pa_cons pe_str (pa_cons (pe_ix ix_list (pe_fld (pv 0) rfl) (pv 4) (fun _ _ => rfl)) (pa_cons (pe_callTy call_str_int rfl T.f_str (by decide +kernel) (pa_cons (pe_dget hu (pe_fld (pv 0) rfl) (pv 4) (fun _ _ => rfl)) pa_nil)) pa_nil)))) pa_nil)))))
      (pss_one (ps_ret (pe_lc (te := tM1 (rJoin K) (tC (.str " ")) (tVar 5)) (own := [("row", 5)]) (g := gName 5) (tt := tYes) rfl sc_canonical_lines.nd (pi_list (pv 1)) (blkOk_by (N := N_canonical_lines) (sc := defScope s_canonical_lines) (by decide +kernel)) (fun _ _ _ _ _ => (pg_name (i := 5) sc_canonical_lines.nd rfl (Or.inl rfl))) (fun _ _ _ _ _ => pts_nil) (fun _ _ _ _ _ => (pe_join pe_str (pv 5))))))))))), ?_⟩
  obtain ⟨_, rfl, d, M, rfl, MO, wf, hQ⟩ := h
  refine ⟨_, rfl, _, _, _, _, _, rfl, MO.ob, T.c_Model, T.n_Model_classes, rfl, _, rfl, ⟨_, SqL.of MO.cl⟩, fun D hD => ?_⟩
  have big : (100000 : Nat) ≤ sizeLine := by decide
  have lcl := wf.ncl
  have lst := wf.nst
  refine lc_keep (xs := words M.classes) (fun _ => true) (fun x z H' => z ≠ V.ref D ∧ ∀ t, x = V.str (sT t) → RowW H' z [Lrx9.keyword 1, t]) (fun x y H' H'' bt r => ⟨r.1, fun t e => ?_⟩) hD (SqL.of MO.cl) (by rw [words_len]; omega) (fun _ => rfl) (fun x H' Q' m s q => q H' (Same.refl _)) ?_ ?_
  · obtain ⟨ay, rfl, h⟩ := r.2 t e
    exact ⟨ay, rfl, bt _ _ (fun z => r.1 (by rw [z])) h⟩
  · rintro x H' Q' hx - s ⟨o, ho⟩ q
    refine ⟨_, rfl, by show 2 ≤ sizeLine; decide, fun p hp => ?_⟩
    refine q _ _ (Same.new hp) ⟨fun z => ?_, fun t et => ?_⟩
    · injection z with z
      rw [z, ho] at hp
      cases hp
    · refine ⟨p, rfl, ?_⟩
      rw [upd_same, et, k_class]
      rfl
  intro vs1 H1 s1 eD pr1
  rw [List.filter_eq_self.mpr (fun _ _ => rfl)] at pr1
  have R1 : RowsW H1 D (M.classes.map fun n => [Lrx9.keyword 1, n]) := ⟨vs1, eD, rows_words pr1⟩
  clear pr1
  obtain ⟨vst, st1, st2⟩ := id MO.st
  refine ⟨_, rfl, _, _, _, _, _, rfl, s1 _ _ MO.ob, T.c_Model, T.n_Model_stations, rfl, _, rfl, ⟨_, SqL.of (s1 _ _ st1)⟩, fun D2 hD2 => ?_⟩
  have st2' : Paired (StaV K H1) vst M.stations := paired_imp (fun _ _ ⟨b, dx, e, z⟩ => ⟨b, dx, e, s1 _ _ z⟩) st2
  refine lc_keep (xs := vst) (fun _ => true) (fun x z H' => z ≠ V.ref D2 ∧ ∀ s, StaV K H1 x s → RowW H' z (staRow s)) (fun x y H' H'' bt r => ⟨r.1, fun t e => ?_⟩) hD2 (SqL.of (s1 _ _ st1)) (by rw [paired_len st2]; omega) (fun _ => rfl) (fun x H' Q' m s q => q H' (Same.refl _)) ?_ ?_
  · obtain ⟨ay, rfl, h⟩ := r.2 t e
    exact ⟨ay, rfl, bt _ _ (fun z => r.1 (by rw [z])) h⟩
  · rintro x H' Q' hx - s ⟨o, ho⟩ q
    obtain ⟨st, hst, hsv⟩ := paired_left st2' x hx
    have ok := wf.st st hst
    have hsv2 : StaV K H' x st := by
      obtain ⟨b, dx, e, z⟩ := hsv
      exact ⟨b, dx, e, s _ _ z⟩
    refine ⟨_, rfl, _, rfl, st, hsv2, ok.2.1, ok.2.2.1, ok.2.2.2, fun p H'' s'' np ep => ?_⟩
    refine q _ _ s'' ⟨fun z => ?_, fun s2 es2 => ?_⟩
    · injection z with z
      rw [z, ho] at np
      cases np
    · rw [← sta_inj hsv es2]
      exact ⟨p, rfl, ep⟩
  intro vs2 H2 s2 eD2 pr2
  rw [List.filter_eq_self.mpr (fun _ _ => rfl)] at pr2
  have R2 : RowsW H2 D2 (M.stations.map staRow) := ⟨vs2, eD2, rows_sta st2' pr2⟩
  clear pr2
  have z1 := (wf.sv.ord (fun e h => Qu.pl_sm h wf.nst wf.ncl)).len
  have z2 := (wf.ar.ord (fun e h => Qu.pl_sm h wf.nst wf.ncl)).len
  have z3 := (wf.ro.ord (fun e h => Qu.ro_sm h wf.nst wf.ncl)).len
  have z4 := (wf.le.ord (fun e h => Qu.pl_sm h wf.nst wf.ncl)).len
  have z5 := (wf.po.ord (fun e h => Qu.po_sm h wf.ncl)).len
  have s02 := s1.trans s2
  obtain ⟨xs, ys, ex, ey, lx, ly, R⟩ := rows_cat (R1.same s2) R2
  rw [List.length_map] at lx ly
  refine ⟨D, D2, xs, ys, rfl, rfl, ex, ey, by omega, fun p hp => ?_⟩
  have R := R p hp
  have s3 := Same.new (o := .lst (xs ++ ys)) hp
  generalize upd H2 p (.lst (xs ++ ys)) = H3 at *
  have s03 := s02.trans s3
  refine ⟨_, rfl, _, rfl, _, rfl, _, _, _, _, _, rfl, s03 _ _ MO.ob, T.c_Model, T.n_Model_services, rfl, _, _, _, rfl, d, M, w, d.sv, Lrx9.keyword 3, key2, _, pls2, 1, M.services, rfl, congrArg V.str k_serve, rfl, MO.sv.fm (S := fun _ => False) s03.fm id, tabS2 wf wf.sv, MO.same s03, fun q4 vq4 H4 s4 nq4 eq4 pq4 => ?_⟩
  obtain ⟨xs4, ys4, ex4, ey4, lx4, ly4, R4⟩ := rows_cat (R.same s4) (rows_val eq4 pq4)
  refine ⟨p, q4, xs4, ys4, rfl, rfl, ex4, ey4, by simp only [List.length_append, List.length_map] at lx4 ly4; omega, fun p5 hp5 => ?_⟩
  have R5 := R4 p5 hp5
  have s5 := s4.to (o := .lst (xs4 ++ ys4)) hp5
  generalize upd H4 p5 (.lst (xs4 ++ ys4)) = H5 at *
  have s05 := s03.trans s5
  refine ⟨_, rfl, _, rfl, _, _, _, _, _, rfl, s05 _ _ MO.ob, T.c_Model, T.n_Model_arrivals, rfl, _, _, _, rfl, d, M, w, d.ar, Lrx9.keyword 4, key2, _, pls2, 1, M.arrivals, rfl, congrArg V.str k_arrive, rfl, MO.ar.fm (S := fun _ => False) s05.fm id, tabS2 wf wf.ar, MO.same s05, fun q6 vq6 H6 s6 nq6 eq6 pq6 => ?_⟩
  obtain ⟨xs6, ys6, ex6, ey6, lx6, ly6, R6⟩ := rows_cat (R5.same s6) (rows_val eq6 pq6)
  refine ⟨p5, q6, xs6, ys6, rfl, rfl, ex6, ey6, by simp only [List.length_append, List.length_map] at lx6 ly6; omega, fun p7 hp7 => ?_⟩
  have R7 := R6 p7 hp7
  have s7 := s6.to (o := .lst (xs6 ++ ys6)) hp7
  generalize upd H6 p7 (.lst (xs6 ++ ys6)) = H7 at *
  have s07 := s05.trans s7
  refine ⟨_, rfl, _, rfl, _, rfl, _, _, _, _, _, rfl, s07 _ _ MO.ob, T.c_Model, T.n_Model_routes, rfl, _, _, _, rfl, d, M, w, d.ro, Lrx9.keyword 5, key4, _, pls4, 2, M.routes, rfl, congrArg V.str k_route, rfl, MO.ro.fm (S := fun _ => False) s07.fm id, tabS4 wf wf.ro, MO.same s07, fun q8 vq8 H8 s8 nq8 eq8 pq8 => ?_⟩
  obtain ⟨xs8, ys8, ex8, ey8, lx8, ly8, R8⟩ := rows_cat (R7.same s8) (rows_val eq8 pq8)
  refine ⟨p7, q8, xs8, ys8, rfl, rfl, ex8, ey8, by simp only [List.length_append, List.length_map] at lx8 ly8; omega, fun p9 hp9 => ?_⟩
  have R9 := R8 p9 hp9
  have s9 := s8.to (o := .lst (xs8 ++ ys8)) hp9
  generalize upd H8 p9 (.lst (xs8 ++ ys8)) = H9 at *
  have s09 := s07.trans s9
  refine ⟨_, rfl, _, rfl, _, _, _, _, _, rfl, s09 _ _ MO.ob, T.c_Model, T.n_Model_leaves, rfl, _, _, _, rfl, d, M, w, d.le, Lrx9.keyword 6, key2, _, pls2, 1, M.leaving, rfl, congrArg V.str k_leave, rfl, MO.le.fm (S := fun _ => False) s09.fm id, tabS2 wf wf.le, MO.same s09, fun qa vqa Ha sa nqa eqa pqa => ?_⟩
  obtain ⟨xsa, ysa, exa, eya, lxa, lya, Ra⟩ := rows_cat (R9.same sa) (rows_val eqa pqa)
  refine ⟨p9, qa, xsa, ysa, rfl, rfl, exa, eya, by simp only [List.length_append, List.length_map] at lxa lya; omega, fun pb hpb => ?_⟩
  have Rb := Ra pb hpb
  have sb := sa.to (o := .lst (xsa ++ ysa)) hpb
  generalize upd Ha pb (.lst (xsa ++ ysa)) = Hb at *
  have s0b := s09.trans sb
  have npb : H pb = none := (s09.trans sa).no pb hpb
  obtain ⟨kpo, es, po1, po2, po3⟩ := id MO.po
  have kk : (kpo.map fun kv => kV kv.1) = (es.map fun e => (e.class_ : Int)).map V.int := by
    clear po1 po3
    induction po2 with
    | nil => rfl
    | cons h _ ih =>
      rw [List.map_cons, ih, h.1]
      rfl
  refine ⟨_, rfl, _, _, _, _, _, rfl, s0b _ _ MO.ob, T.c_Model, T.n_Model_populations, rfl, _, kpo, rfl, s0b _ _ po1, fun l hl => ?_⟩
  rw [kk]
  have sl : Same Hb (upd Hb l (.lst ((es.map fun e => (e.class_ : Int)).map V.int))) := Same.new hl
  have fl : (upd Hb l (.lst ((es.map fun e => (e.class_ : Int)).map V.int))) l = some (.lst ((es.map fun e => (e.class_ : Int)).map V.int)) := upd_same
  generalize upd Hb l (.lst ((es.map fun e => (e.class_ : Int)).map V.int)) = Hc at *
  refine ⟨l, es.map fun e => (e.class_ : Int), rfl, SqL.of fl, fun ns m np ns2 hm => ?_⟩
  have ens : ns = M.populations.map fun e => (e.class_ : Int) := by
    refine List.Perm.eq_of_pairwise (le := (· ≤ ·)) (fun a b _ _ h1 h2 => Int.le_antisymm h1 h2) ns2 ?_ (np.trans (po3.map _))
    rw [List.pairwise_map]
    refine wf.po.so.imp_of_mem fun {a b} ha hb h => ?_
    obtain ⟨a1, a2, a3, a4⟩ := wf.po.rg a ha
    obtain ⟨b1, b2, b3, b4⟩ := wf.po.rg b hb
    unfold Qu.code at h
    omega
  subst ens
  have sm := sl.trans (Same.new (o := .lst ((M.populations.map fun e => (e.class_ : Int)).map V.int)) hm)
  have fm : (upd Hc m (.lst ((M.populations.map fun e => (e.class_ : Int)).map V.int))) m = some (.lst ((M.populations.map fun e => (e.class_ : Int)).map V.int)) := upd_same
  generalize upd Hc m (.lst ((M.populations.map fun e => (e.class_ : Int)).map V.int)) = Hd at *
  have Rd := Rb.same sm
  have eR0 : canRows M = (M.classes.map fun n => [Lrx9.keyword 1, n]) ++ M.stations.map staRow ++ M.services.map (rowOf M (Lrx9.keyword 3) pls2) ++ M.arrivals.map (rowOf M (Lrx9.keyword 4) pls2) ++ M.routes.map (rowOf M (Lrx9.keyword 5) pls4) ++ M.leaving.map (rowOf M (Lrx9.keyword 6) pls2) ++ M.populations.map (popRow M) := rfl
  have npb0 : H pb = none := npb
  generalize (M.classes.map fun n => [Lrx9.keyword 1, n]) ++ M.stations.map staRow ++ M.services.map (rowOf M (Lrx9.keyword 3) pls2) ++ M.arrivals.map (rowOf M (Lrx9.keyword 4) pls2) ++ M.routes.map (rowOf M (Lrx9.keyword 5) pls4) ++ M.leaving.map (rowOf M (Lrx9.keyword 6) pls2) = R0 at *
  refine ⟨m, rfl, ⟨_, SqL.of fm⟩, for_it (walk_list (K := K) (a := m) (xs := (M.populations.map fun e => (e.class_ : Int)).map V.int)) (fun i σ H' => ∃ v2 v3 v4 v5, σ = [some (.ref d.a), some (.ref pb), v2, v3, v4, v5] ∧ Same H H' ∧ H' m = some (.lst ((M.populations.map fun e => (e.class_ : Int)).map V.int)) ∧ RowsW H' pb (R0 ++ (M.populations.take i).map (popRow M))) ?_ ?_ ?_ ?_⟩
  · exact ⟨_, _, _, _, rfl, s0b.trans sm, fm, by rw [List.take_zero, List.map_nil, List.append_nil]; exact Rd⟩
  · rintro i σ H' hi ⟨v2, v3, v4, v5, -, -, e, -⟩
    exact SqL.of e
  · rintro i x σ Hy H5' hi ⟨v2, v3, v4, v5, rfl, se, em, Re⟩ ⟨ey, hx⟩
    subst ey
    rw [List.getElem?_map, List.getElem?_map] at hx
    obtain ⟨n, hn, rfl⟩ := Option.map_eq_some_iff.mp hx
    obtain ⟨e, he, rfl⟩ := Option.map_eq_some_iff.mp hn
    have hme := List.mem_of_getElem? he
    obtain ⟨a1, a2, a3, a4⟩ := wf.po.rg e hme
    have vk := wf.pv e hme
    obtain ⟨vsr, hvr, pvr⟩ := id Re
    obtain ⟨o, g, go, iff⟩ := pop_get (r := e.class_) ((MO.same se).po) wf.ncl a2 wf.po
    have ev : Lrx9.valueAt M.populations 0 e.class_ 0 0 = e.value := value_in_ (e := ⟨0, e.class_, 0, 0, Lrx1.zero⟩) wf.po.so (fun y hy => Qu.po_sm (wf.po.rg y hy) wf.ncl) (Qu.po_sm (nc := M.classes.length) ⟨rfl, a2, rfl, rfl⟩ wf.ncl) hme (by simp [Lrx9.samePlace, a1, a3, a4])
    rw [ev] at go iff
    have lr := paired_len pvr
    rw [List.length_append, List.length_map, List.length_take] at lr
    have cl := can_len wf
    rw [show canRows M = R0 ++ M.populations.map (popRow M) from eR0, List.length_append, List.length_map] at cl
    cases o with
    | none => exact absurd (iff.mp rfl) (wf.po.vs e hme).nz
    | some v =>
      have go : v = .int e.value.num := go
      subst go
      refine ⟨_, rfl, .inl ⟨rfl, _, SqL.of hvr⟩, _, rfl, _, _, _, _, _, rfl, se _ _ MO.ob, T.c_Model, T.n_Model_classes, rfl, _, rfl, _, _, _, _, rfl, rfl, SqL.of (se _ _ MO.cl), words_at (List.getElem?_eq_getElem a2), _, rfl, _, _, _, _, _, rfl, se _ _ MO.ob, T.c_Model, T.n_Model_populations, rfl, _, rfl, _, _, rfl, g, _, rfl, log_small (by omega), by show 3 ≤ sizeLine; decide, fun q hq => ⟨pb, vsr, .ref q, rfl, rfl, Same.new hq _ _ hvr, by omega, ?_⟩⟩
      have ew : [V.str "population", .str (sT M.classes[e.class_]), .str (Str.ofString (toString e.value.num))] = words (popRow M e) := by
        rw [k_population, str_int]
        unfold popRow Lrx9.className
        rw [List.getD_eq_getElem?_getD, List.getElem?_eq_getElem a2]
        rfl
      have nmp : m ≠ pb := by
        rintro rfl
        obtain ⟨vb, e1, -⟩ := Rb
        rw [sl _ _ e1] at hm
        cases hm
      rw [ew]
      obtain ⟨vs', k1, k2⟩ := rows_add (ws := popRow M e) hvr pvr hq
      refine ⟨_, _, _, _, rfl, (se.to hq).put npb0, by rw [upd_ne nmp]; exact Same.new hq _ _ em, vs', k1, ?_⟩
      rw [take_next he, List.map_append, ← List.append_assoc]
      exact k2
  · rintro σ He ⟨v2, v3, v4, v5, rfl, se, em, Re⟩
    rw [show ((M.populations.map fun e => (e.class_ : Int)).map V.int).length = M.populations.length from by rw [List.length_map, List.length_map], List.take_length] at Re
    obtain ⟨vr, hvr, pvr⟩ := id Re
    refine ⟨_, rfl, _, rfl, ⟨_, SqL.of hvr⟩, fun D9 hD9 => ?_⟩
    refine lc_keep (xs := vr) (fun _ => true) (fun x z _ => ∀ ws, RowW He x ws → z = V.str (sT (Lrx9.joined ws))) (fun _ _ _ _ _ h => h) hD9 (SqL.of hvr) (by rw [paired_len pvr, ← eR0]; have := can_len wf; omega) (fun _ => rfl) (fun x H' Q' m s q => q H' (Same.refl _)) ?_ ?_
    · intro x H' Q' hx _ s ho q
      obtain ⟨ws, hws, a, rfl, ha⟩ := paired_left pvr x hx
      rw [← eR0] at hws
      have sm := (can_small wf ws hws)
      refine ⟨⟨_, rfl⟩, _, rfl, " ", a, ws.map sT, rfl, rfl, .inl (SqL.of ?_), ?_, ?_⟩
      · rw [← words_str]
        exact s _ _ ha
      · rw [sT_lens, List.length_map, show (" " : Str).length = 1 from rfl]
        have := sm.sum
        omega
      · refine q _ H' (Same.refl _) fun ws' ⟨a', ea, ha'⟩ => ?_
        injection ea with ea
        rw [← ea, ha] at ha'
        have e1 : words ws = words ws' := by
          have z := Option.some.inj ha'
          injection z
        rw [← words_inj e1, blank_s]
        exact congrArg V.str ((TL.join_eq _ _).trans (join_s ws))
    · intro ys H' s eD pr
      rw [List.filter_eq_self.mpr (fun _ _ => rfl)] at pr
      refine hQ D9 H' (se.trans s) (se.no _ hD9) ?_
      rw [eD, ← can_lines wf, eR0, lines_join pvr pr]
end Q
set_option Elab.async false
set_option linter.all false
set_option maxRecDepth 100000
set_option maxHeartbeats 4000000
namespace Q
open PySem PySem.Spec PyProof.Rows L2
/-! ### pairs as data -/
def twoD (a b : Int) : PyData := .tuple [.int a, .int b]
theorem two_shaped (a b : Int) : SeqAt.shaped (twoD a b) = true := by
  show (PyData.canLay0 _ && decide (PyData.depth _ ≤ 64)) = true
  unfold twoD
  simp [PyData.canLay0, PyData.canLayAll0, PyData.depth, PyData.depthAll]
theorem two_eq (a b c d : Int) : PyData.eqv (twoD a b) (twoD c d) = (a == c && b == d) := by
  unfold twoD
  simp [PyData.eqv, PyData.eqvAll]
theorem two_dp {K : PySem.W.Frag} {H : Hp} {p : Addr} {a b : Int} (h : SqT K H p [.int a, .int b]) : Dp K H (.ref p) (twoD a b) := .tup h (.cons (.int _) (.cons (.int _) .nil))
theorem nat_beq (a b : Nat) : ((a : Int) == (b : Int)) = (a == b) := by
  rw [Bool.eq_iff_iff, beq_iff_eq, beq_iff_eq]
  omega
/-- the key tuples of a table with its entries -/
theorem keys_of {K : PySem.W.Frag} {H : Hp} {key : Lrx9.Entry → List Key} : ∀ {kvs : List (List Key × V)} {es : List Lrx9.Entry} {bs : List Addr}, Paired (fun (kv : List Key × V) (e : Lrx9.Entry) => kv.1 = key e ∧ FrV K H kv.2 e.value) kvs es → IsKeys H kvs bs →
    Paired (fun b e => H b = some (.tup ((key e).map kV))) bs es
  | _, _, _, .nil, .nil => .nil
  | kv :: _, e :: _, b :: _, .cons h r, .cons h2 r2 => .cons (by rw [h2, h.1]) (keys_of r r2)
theorem key_turn {H : Hp} {key : Lrx9.Entry → List Key} {bs : List Addr} {es : List Lrx9.Entry} {k : Nat} {x : V} (kb : Paired (fun b e => H b = some (.tup ((key e).map kV))) bs es) (hx : (bs.map V.ref)[k]? = some x) : ∃ b e, es[k]? = some e ∧ x = V.ref b ∧ H b = some (.tup ((key e).map kV)) := by
  rw [List.getElem?_map] at hx
  obtain ⟨b, hb, e⟩ := Option.map_eq_some_iff.mp hx
  obtain ⟨t, h1, h2⟩ := paired_get kb hb
  exact ⟨b, t, h1, e.symm, h2⟩
def sp_sum_of (K : PySem.W.Frag) : Sp := sp2 fun a b H Q _ => ∃ (d : MD) (M : Lrx9.Model) (pb : Addr) (i r : Nat), a = .ref d.a ∧ b = .ref pb ∧ H pb = some (.tup [.int (i : Int), .int (r : Int)]) ∧ i < M.stations.length ∧ r < M.classes.length ∧ MdO K H d M ∧ Qu.Wf M ∧
  GivesF K (Lrx9.outSum M i r) H Q
theorem ok_sum_of {w : World} {K : PySem.W.Frag} {mg : Str → Option Value} {base : Heap} (T : Txt w K mg) : OKF w K mg base (CX0) 4 d_sum_of ["model", "place"] (sp_sum_of K) := by
  refine okf_mk (k := 3) T 19 rfl sc_sum_of rfl rfl (fun _ _ _ _ _ _ us hl => match us, hl with | [_, _], _ => rfl) sp2_len (fun f cdv A outer s H vs Q E hr h => ?_)
  have hu := hu_of hr
  have hu64 := hr.units
  refine ⟨_, (PSs.nox (pss_cons (ps_set (i := 2) sc_sum_of.nd rfl (Or.inl rfl) (pe_dget2 hu (pe_fld (pv 0) rfl) (pv 1) (pe_gref rfl (T.g_NOUGHT)) ⟨rfl, rfl, rfl, rfl⟩))
      (pss_cons (ps_for PassesOwn.never rfl (pi_list (pe_callTy (call_list_dT rfl) rfl T.f_list (by decide +kernel) (pa_cons (pe_fld (pv 0) rfl) pa_nil))) (pg_name (i := 3) sc_sum_of.nd rfl (Or.inl rfl))
      (pss_one (ps_if (pt_cmpR (op_eqD hu64) (pe_slice sl_tup (pv 3) po_none (po_some pe_int)) (pv 1) (nomark _)) (pss_one (ps_set (i := 2) sc_sum_of.nd rfl (Or.inl rfl) (pe_ok (ok_plus T) (hr.mono (by decide)) rfl T.g_plus pass0 (pa_cons (pv 2) (pa_cons (pe_dget hu (pe_fld (pv 0) rfl) (pv 3) (fun _ _ => rfl)) pa_nil)))))
      pss_nil)))
      (pss_one (ps_ret (pv 2)))))), ?_⟩
  obtain ⟨_, _, rfl, d, M, pb, i, r, rfl, rfl, hb, hi, hr2, MO, wf, hQ⟩ := h
  obtain ⟨kle, ele, hle, -⟩ := id MO.le
  obtain ⟨o, g, fv, -⟩ := tab_get (e := ⟨i, r, 0, 0, Lrx1.zero⟩) (z := .ref (He.ga K "NOUGHT")) MO.le (key2_ok (w := w) wf.nst wf.ncl) (fun e h => Qu.pl_sm h wf.nst wf.ncl) wf.le ⟨hi, hr2, rfl, rfl⟩ hb ⟨_, rfl, T.t_NOUGHT H⟩
  refine ⟨_, rfl, _, _, _, _, _, rfl, MO.ob, T.c_Model, T.n_Model_leaves, rfl, _, rfl, .inr ⟨_, .inl hle⟩, _, rfl, o, g, ?_⟩
  generalize o.getD (V.ref (He.ga K "NOUGHT")) = v0 at *
  obtain ⟨kro, ero, ro1, ro2, ro3⟩ := id MO.ro
  refine ⟨_, rfl, _, _, _, _, _, rfl, MO.ob, T.c_Model, T.n_Model_routes, rfl, _, kro, rfl, .inl ro1, fun p bs hp ik => ?_⟩
  have kb := keys_of ro2 ik
  have s1 : Same H (upd H p (.lst (bs.map V.ref))) := Same.new hp
  have f1 : (upd H p (.lst (bs.map V.ref))) p = some (.lst (bs.map V.ref)) := upd_same
  generalize upd H p (.lst (bs.map V.ref)) = H1 at *
  refine ⟨p, rfl, ⟨_, SqL.of f1⟩, for_it (walk_list (K := K) (a := p) (xs := bs.map V.ref)) (fun k σ H' => ∃ v2 v3, σ = [some (.ref d.a), some (.ref pb), some v2, v3] ∧ Same H1 H' ∧
    FrV K H' v2 ((((ero.take k).filter (Qu.fromAt i r)).map Lrx9.Entry.value).foldl Lrx1.add (Lrx9.valueAt M.leaving i r 0 0))) ⟨v0, none, rfl, Same.refl _, fv.same s1⟩ ?_ ?_ ?_⟩
  · rintro k σ H' hk ⟨v2, v3, -, s2, -⟩
    exact SqL.of (s2 _ _ f1)
  · rintro k x σ Hy H2 hk ⟨v2, v3, rfl, s2, fv2⟩ ⟨ey, hx⟩
    subst ey
    obtain ⟨b, e, hke, rfl, hbe⟩ := key_turn kb hx
    have s02 := s1.trans s2
    have pb1 := Qu.part_bd wf ro3 i r k
    have hme : e ∈ M.routes := ro3.subset (List.mem_of_getElem? hke)
    have tk : ((ero.take (k + 1)).filter (Qu.fromAt i r)).map Lrx9.Entry.value = ((ero.take k).filter (Qu.fromAt i r)).map Lrx9.Entry.value ++ (if Qu.fromAt i r e = true then [e.value] else []) := by
      rw [Qu.take_filter hke, List.map_append]
      split <;> rfl
    rw [tk, List.foldl_append]
    refine ⟨_, rfl, _, rfl, _, _, rfl, SqT.of (s02 _ _ hbe), by show ¬ ((0 : Nat) = 0 ∧ (2 : Nat) = 4); decide, fun q hq => ?_⟩
    have s3 : Same H2 (upd H2 q (.tup [.int (e.station : Int), .int (e.class_ : Int)])) := Same.new hq
    have f3 : (upd H2 q (.tup [V.int (e.station : Int), .int (e.class_ : Int)])) q = some (.tup [.int (e.station : Int), .int (e.class_ : Int)]) := upd_same
    rw [show cutV ((key4 e).map kV) none (some 2) = [V.int (e.station : Int), .int (e.class_ : Int)] from rfl]
    generalize upd H2 q (.tup [V.int (e.station : Int), .int (e.class_ : Int)]) = H3 at *
    have s03 := s02.trans s3
    refine ⟨_, rfl, _, _, two_dp (SqT.of f3), two_dp (SqT.of (s03 _ _ hb)), two_shaped _ _, two_shaped _ _, _, rfl, ?_⟩
    rw [two_eq, nat_beq, nat_beq]
    refine ite2 (fun c => ?_) (fun c => ?_)
    · rw [if_pos (show Qu.fromAt i r e = true from c)]
      have MO3 := MO.same s03
      obtain ⟨kr3, er3, h31, h32, h33⟩ := id MO3.ro
      have ev := value_in_ wf.ro.so (fun y hy => Qu.ro_sm (wf.ro.rg y hy) wf.nst wf.ncl) (Qu.ro_sm (wf.ro.rg e hme) wf.nst wf.ncl) hme (Qu.same_refl e)
      obtain ⟨o, g, fw, iff⟩ := tab_get (e := e) (z := .ref (He.ga K "NOUGHT")) MO3.ro (key4_ok (w := w) wf.nst wf.ncl) (fun e h => Qu.ro_sm h wf.nst wf.ncl) wf.ro (wf.ro.rg e hme) (s03 _ _ hbe) ⟨_, rfl, T.t_NOUGHT _⟩
      rw [ev] at fw iff
      have vk := wf.ro.vs e hme
      cases o with
      | none => exact absurd (iff.mp rfl) vk.nz
      | some v =>
        refine ⟨_, rfl, _, rfl, _, _, _, _, _, rfl, MO3.ob, T.c_Model, T.n_Model_routes, rfl, _, rfl, _, _, rfl, g, _, _, rfl, _, e.value, 1100, 30, ⟨fv2.same s3, fw, pb1.2, vk.red, pb1.1, Qu.short_bd vk.short, by decide⟩, fun v4 H4 s4 fv4 => ?_⟩
        exact ⟨v4, _, rfl, (s2.trans s3).trans s4, fv4⟩
    · rw [if_neg (show ¬ Qu.fromAt i r e = true from c)]
      exact ⟨v2, _, rfl, s2.trans s3, fv2.same s3⟩
  · rintro σ H2 ⟨v2, v3, rfl, s2, fv2⟩
    have el : (bs.map V.ref).length = ero.length := by rw [List.length_map]; exact paired_len kb
    rw [el, List.take_length, Qu.out_fold wf ro3] at fv2
    exact ⟨_, rfl, hQ v2 H2 (s1.trans s2) fv2⟩
end Q
set_option Elab.async false
set_option linter.all false
set_option maxRecDepth 100000
set_option maxHeartbeats 4000000
namespace Q
open PySem PySem.Spec PyProof.Rows L2
/-! ### key tuples picked -/
def tnD (ns : List Nat) : PyData := .tuple (ns.map fun (b : Nat) => PyData.int (b : Int))
theorem tup_dp {K : PySem.W.Frag} {H : Hp} {a : Addr} {ns : List Nat} (h : H a = some (.tup (vN ns))) : Dp K H (.ref a) (tnD ns) := by
  refine .tup (SqT.of h) ?_
  clear h
  induction ns with
  | nil => exact .nil
  | cons b r ih => exact .cons (.int _) ih
theorem tups_shaped (rows : List (List Nat)) : SeqAt.shaped (.list (rows.map tnD)) = true := by
  have one : ∀ r : List Nat, (tnD r).canLay0 = true ∧ (tnD r).depth ≤ 1 := fun r => by
    have lay : ∀ l : List Nat, PyData.canLayAll0 (l.map fun (b : Nat) => PyData.int (b : Int)) = true ∧ PyData.depthAll (l.map fun (b : Nat) => PyData.int (b : Int)) ≤ 0 := by
      intro l
      induction l with
      | nil => exact ⟨by simp [PyData.canLayAll0], by simp [PyData.depthAll]⟩
      | cons b r ih =>
        refine ⟨by simp [PyData.canLayAll0, PyData.canLay0, ih.1], ?_⟩
        simp only [List.map_cons, PyData.depthAll, PyData.depth]
        omega
    have h := lay r
    unfold tnD
    refine ⟨by simp only [PyData.canLay0]; exact h.1, ?_⟩
    simp only [PyData.depth]
    omega
  have all : ∀ rows : List (List Nat), PyData.canLayAll0 (rows.map tnD) = true ∧ PyData.depthAll (rows.map tnD) ≤ 1 := by
    intro rows
    induction rows with
    | nil => exact ⟨by simp [PyData.canLayAll0], by simp [PyData.depthAll]⟩
    | cons r rs ih =>
      have o := one r
      refine ⟨by simp [PyData.canLayAll0, o.1, ih.1], ?_⟩
      simp only [List.map_cons, PyData.depthAll]
      omega
  have h := all rows
  show (PyData.canLay0 _ && decide (PyData.depth _ ≤ 64)) = true
  rw [Bool.and_eq_true]
  refine ⟨by simp only [PyData.canLay0]; exact h.1, decide_eq_true ?_⟩
  simp only [PyData.depth]
  omega
theorem tups_nil (rows : List (List Nat)) : PyData.eqv (.list (rows.map tnD)) (.list []) = decide (rows = []) := by
  cases rows with
  | nil => simp [PyData.eqv, PyData.eqvAll]
  | cons b r => simp [PyData.eqv, PyData.eqvAll]
/-- the numbers of a tuple -/
def tupN (H : Hp) (v : V) : List Nat := match v with
  | .ref a => match H a with
    | some (.tup xs) => xs.map fun x => match x with
      | .int i => i.toNat
      | _ => 0
    | _ => []
  | _ => []
theorem tupN_of {H : Hp} {a : Addr} {ns : List Nat} (h : H a = some (.tup (vN ns))) : tupN H (.ref a) = ns := by
  unfold tupN vN at *
  simp only [h, List.map_map]
  conv => rhs; rw [← List.map_id ns]
  exact List.map_congr_left fun n _ => rfl
theorem keys_filter {H : Hp} {ks : Lrx9.Entry → List Nat} {p : List Nat → Bool} : ∀ {bs : List Addr} {es : List Lrx9.Entry}, Paired (fun b e => H b = some (.tup (vN (ks e)))) bs es →
    Paired (fun v e => ∃ b, v = V.ref b ∧ H b = some (.tup (vN (ks e)))) ((bs.map V.ref).filter fun v => p (tupN H v)) (es.filter fun e => p (ks e))
  | _, _, .nil => .nil
  | b :: bs, e :: es, .cons h r => by
    have q := tupN_of h
    have ih := keys_filter (p := p) r
    rw [List.map_cons]
    cases c : p (ks e) with
    | true =>
      rw [List.filter_cons_of_pos (by rw [q]; exact c), List.filter_cons_of_pos (by exact c)]
      exact .cons ⟨b, rfl, h⟩ ih
    | false =>
      rw [List.filter_cons_of_neg (by rw [q, c]; exact Bool.false_ne_true), List.filter_cons_of_neg (by rw [c]; exact Bool.false_ne_true)]
      exact ih
theorem keys_dp {K : PySem.W.Frag} {H H' : Hp} {ks : Lrx9.Entry → List Nat} (s : Same H H') : ∀ {vs : List V} {es : List Lrx9.Entry}, Paired (fun v e => ∃ b, v = V.ref b ∧ H b = some (.tup (vN (ks e)))) vs es → DpAll K H' vs ((es.map ks).map tnD)
  | _, _, .nil => .nil
  | _, _, .cons ⟨b, e, h⟩ r => by
    subst e
    exact .cons (tup_dp (s _ _ h)) (keys_dp s r)
theorem key_mem {H : Hp} {ks : Lrx9.Entry → List Nat} {bs : List Addr} {es : List Lrx9.Entry} (kb : Paired (fun b e => H b = some (.tup (vN (ks e)))) bs es) {x : V} (hx : x ∈ bs.map V.ref) : ∃ b e, e ∈ es ∧ x = V.ref b ∧ H b = some (.tup (vN (ks e))) := by
  obtain ⟨b, hb, rfl⟩ := List.mem_map.mp hx
  obtain ⟨e, he, h⟩ := paired_left kb b hb
  exact ⟨b, e, he, rfl, h⟩
theorem any_nil {es l : List Lrx9.Entry} {f : Lrx9.Entry → List Nat} (p : es.Perm l) (q : Lrx9.Entry → Bool) : (!decide ((es.filter q).map f = [])) = l.any q := by
  have e1 : l.any q = es.any q := by
    rw [Bool.eq_iff_iff, List.any_eq_true, List.any_eq_true]
    exact ⟨fun ⟨x, hx, h⟩ => ⟨x, p.symm.subset hx, h⟩, fun ⟨x, hx, h⟩ => ⟨x, p.subset hx, h⟩⟩
  rw [e1]
  cases c : es.any q with
  | true =>
    obtain ⟨x, hx, h⟩ := List.any_eq_true.mp c
    have : (es.filter q).map f ≠ [] := fun z => by
      rw [List.map_eq_nil_iff, List.filter_eq_nil_iff] at z
      exact z x hx h
    rw [decide_eq_false this]
    rfl
  | false =>
    have : (es.filter q).map f = [] := by
      rw [List.map_eq_nil_iff, List.filter_eq_nil_iff]
      exact fun x hx h => List.any_eq_false.mp c x hx h
    rw [decide_eq_true this]
    rfl
abbrev ks2 (e : Lrx9.Entry) : List Nat := [e.station, e.class_]
abbrev ks4 (e : Lrx9.Entry) : List Nat := [e.station, e.class_, e.toStation, e.toClass]
theorem some_any {b : Bool} {o : Option V} {q : Fr} (e : b = !decide (q = Lrx1.zero)) (iff : o = none ↔ q = Lrx1.zero) : o.isSome = b := by
  rw [e]
  cases o with
  | none => rw [decide_eq_true (iff.mp rfl)]; rfl
  | some v =>
    rw [decide_eq_false fun z => by have := iff.mpr z; cases this]
    rfl
def sp_is_used (K : PySem.W.Frag) : Sp := sp2 fun a b H Q _ => ∃ (d : MD) (M : Lrx9.Model) (pb : Addr) (i r : Nat), a = .ref d.a ∧ b = .ref pb ∧ H pb = some (.tup [.int (i : Int), .int (r : Int)]) ∧ i < M.stations.length ∧ r < M.classes.length ∧ MdO K H d M ∧ Qu.Wf M ∧
  ∀ H', Same H H' → Q (.bl (Lrx9.isUsed M i r)) H'
theorem ok_is_used {w : World} {K : PySem.W.Frag} {mg : Str → Option Value} {base : Heap} (T : Txt w K mg) : OKF w K mg base (CX0) 1 d_is_used ["model", "place"] (sp_is_used K) := by
  refine okf_mk (k := 0) T 20 rfl sc_is_used rfl rfl (fun _ _ _ _ _ _ us hl => match us, hl with | [_, _], _ => rfl) sp2_len (fun f cdv A outer s H vs Q E hr h => ?_)
  have hu := hu_of hr
  have hu64 := hr.units
  refine ⟨_, (PSs.nox (pss_one (ps_ret (pe_or (pe_cmp (pc_din hu (pv 1) (pe_fld (pv 0) rfl))) (pe_one (pe_cmpR (op_neD hu64) (pe_lc (tt := tTest (tOp (rEqD K) (tSl (rSlT K) (tVar 2) (tPart (tC (.int 2))) tNoPart) (tVar 1))) (own := [("route", 2)]) (g := gName 2)  rfl sc_is_used.nd (pi_list (pe_callTy (call_list_dT rfl) rfl T.f_list (by decide +kernel) (pa_cons (pe_fld (pv 0) rfl) pa_nil))) (blkOk_by (N := N_is_used) (sc := defScope s_is_used) (by decide +kernel)) (fun _ _ _ _ _ => (pg_name (i := 2) sc_is_used.nd rfl (Or.inl rfl))) (fun _ _ _ _ _ => (pts_one (pt_cmpR (op_eqD hu64) (pe_slice sl_tup (pv 2) (po_some pe_int) po_none) (pv 1) (nomark _)))) (fun _ _ _ _ _ => (pv 2))) (pe_lst pa_nil) (nomark _))))))), ?_⟩
  obtain ⟨_, _, rfl, d, M, pb, i, r, rfl, rfl, hb, hi, hr2, MO, wf, hQ⟩ := h
  obtain ⟨o, g, -, iff⟩ := tab_get (e := ⟨i, r, 0, 0, Lrx1.zero⟩) (z := .ref (He.ga K "NOUGHT")) MO.ar (key2_ok (w := w) wf.nst wf.ncl) (fun e h => Qu.pl_sm h wf.nst wf.ncl) wf.ar ⟨hi, hr2, rfl, rfl⟩ hb ⟨_, rfl, T.t_NOUGHT H⟩
  unfold Lrx9.isUsed at hQ
  rw [← some_any (Qu.val_any wf.ar i r) iff] at hQ
  refine ⟨_, rfl, _, rfl, _, _, _, _, _, rfl, MO.ob, T.c_Model, T.n_Model_arrivals, rfl, _, o, rfl, g, _, rfl, ?_⟩
  cases o with
  | some v => exact iteT (hQ H (Same.refl _))
  | none =>
    refine iteF ?_
    obtain ⟨kro, ero, ro1, ro2, ro3⟩ := id MO.ro
    refine ⟨_, rfl, _, _, _, _, _, rfl, MO.ob, T.c_Model, T.n_Model_routes, rfl, _, kro, rfl, .inl ro1, fun p bs hp ik => ?_⟩
    have kb : Paired (fun b e => H b = some (.tup (vN (ks4 e)))) bs ero := keys_of ro2 ik
    have s1 : Same H (upd H p (.lst (bs.map V.ref))) := Same.new hp
    have f1 : (upd H p (.lst (bs.map V.ref))) p = some (.lst (bs.map V.ref)) := upd_same
    generalize upd H p (.lst (bs.map V.ref)) = H1 at *
    have l1024 := (wf.ro.ord (fun e h => Qu.ro_sm h wf.nst wf.ncl)).len
    have big : (100000 : Nat) ≤ sizeLine := by decide
    refine ⟨p, rfl, ⟨_, SqL.of f1⟩, fun D hD => ?_⟩
    refine lc_keep (xs := bs.map V.ref) (fun v => (fun ns => ns.drop 2 == [i, r]) (tupN H v)) (fun x y _ => y = x) (fun _ _ _ _ _ h => h) hD (SqL.of f1) (by rw [List.length_map, paired_len kb, ro3.length_eq]; omega) (fun _ => rfl) ?_ ?_ ?_
    · intro x H' Q' hx s q
      obtain ⟨b, e, he, rfl, hbe⟩ := key_mem kb hx
      have s02 := s1.trans s
      refine ⟨_, rfl, _, rfl, _, _, rfl, SqT.of (s02 _ _ hbe), by show ¬ ((2 : Nat) = 0 ∧ (4 : Nat) = 4); decide, fun u hu => ?_⟩
      have s3 : Same H' (upd H' u (.tup [.int (e.toStation : Int), .int (e.toClass : Int)])) := Same.new hu
      have f3 : (upd H' u (.tup [V.int (e.toStation : Int), .int (e.toClass : Int)])) u = some (.tup [.int (e.toStation : Int), .int (e.toClass : Int)]) := upd_same
      rw [show cutV (vN (ks4 e)) (some 2) none = [V.int (e.toStation : Int), .int (e.toClass : Int)] from rfl]
      generalize upd H' u (.tup [V.int (e.toStation : Int), .int (e.toClass : Int)]) = H3 at *
      refine ⟨_, rfl, _, _, two_dp (SqT.of f3), two_dp (SqT.of ((s02.trans s3) _ _ hb)), two_shaped _ _, two_shaped _ _, _, rfl, ?_⟩
      rw [two_eq, nat_beq, nat_beq]
      rw [show (fun ns : List Nat => ns.drop 2 == [i, r]) (tupN H (V.ref b)) = (e.toStation == i && e.toClass == r) from by
        rw [tupN_of hbe]
        show (e.toStation == i && (e.toClass == r && true)) = _
        rw [Bool.and_true]] at q
      exact q H3 s3
    · intro x H' Q' hx hp s ho q
      exact ⟨_, rfl, q _ H' (Same.refl _) rfl⟩
    · intro ys H2 s2 eD hpr
      have ey := paired_eq hpr
      have kf := keys_filter (p := fun ns => ns.drop 2 == [i, r]) kb
      rw [← ey] at kf
      have s02 := s1.trans s2
      refine ⟨by show 0 ≤ sizeLine; decide, fun e he => ⟨_, _, .lst (SqL.of (Same.new he _ _ eD)) (keys_dp (s02.to he) kf), .lst (SqL.of upd_same) .nil, tups_shaped _, rfl, ?_⟩⟩
      rw [tups_nil, any_nil ro3]
      rw [show (fun e : Lrx9.Entry => (ks4 e).drop 2 == [i, r]) = fun e => e.toStation == i && e.toClass == r from by
        funext e
        show (e.toStation == i && (e.toClass == r && true)) = _
        rw [Bool.and_true]]
      exact hQ _ (s02.to he)
end Q
set_option Elab.async false
set_option linter.all false
set_option maxRecDepth 100000
set_option maxHeartbeats 4000000
namespace Q
open PySem PySem.Spec PyProof.Rows L2
/-! ### x not in (a, b): data -/
def rNotInT (K : PySem.W.Frag) : R2 := fun x y H Q => ∃ d ds, Dp K H x d ∧ Dp K H y (.tuple ds) ∧ SeqAt.shaped d = true ∧ SeqAt.shaped (.tuple ds) = true ∧ Q (.bl (!ds.any fun z => PyData.eqv z d)) H
theorem op_notInT {X : Cx} (hu : X.A.units + 65 < PySem.cLine) : OpR X (compareOp .NotIn) (rNotInT X.K) := by
  intro pins s σ H x y v u Q I rx ry h
  obtain ⟨d, ds, hd, he, sd, se, q⟩ := h
  obtain ⟨as, r1⟩ := Dp.reads I d x v hd rx
  obtain ⟨bs, r2⟩ := Dp.reads I (.tuple ds) y u he ry
  exact SeqAt.notIn_tuple_reads r2 r1 (SeqAt.canLay_of_shaped se) (SeqAt.canLay_of_shaped sd) (PyProof.Rows.room_in_shaped sd hu) ⟨.bl _, H, I, rfl, q⟩
theorem sum_in (q : Fr) : (!([twoD 0 1, twoD 1 1].any fun z => PyData.eqv z (twoD q.num (q.den : Int)))) = decide (q ≠ Lrx1.zero ∧ q ≠ Lrx1.one) := by
  obtain ⟨n, d⟩ := q
  have e1 : ((⟨n, d⟩ : Fr) = Lrx1.zero) ↔ (0 = n ∧ (1 : Int) = (d : Int)) := by
    unfold Lrx1.zero
    rw [Lrx1.Fraction.mk.injEq]
    omega
  have e2 : ((⟨n, d⟩ : Fr) = Lrx1.one) ↔ (1 = n ∧ (1 : Int) = (d : Int)) := by
    unfold Lrx1.one
    rw [Lrx1.Fraction.mk.injEq]
    omega
  rw [Bool.eq_iff_iff, decide_eq_true_iff, ne_eq, ne_eq, e1, e2]
  simp only [List.any_cons, List.any_nil, Bool.or_false, two_eq, Bool.not_eq_true', Bool.or_eq_false_iff, Bool.and_eq_false_iff, beq_eq_false_iff_ne, ne_eq]
  omega
/-! ### lists of problems -/
def ProbV (H : Hp) (v : V) (p : Lrx9.Problem) : Prop := ∃ a, v = .ref a ∧ H a = some (.tup (vN [p.kind, p.station, p.class_]))
def PrsV (H : Hp) (q : Addr) (ps : List Lrx9.Problem) : Prop := ∃ vs, H q = some (.lst vs) ∧ Paired (ProbV H) vs ps
theorem PrsV.same {H H' : Hp} {q : Addr} {ps : List Lrx9.Problem} (h : PrsV H q ps) (s : Same H H') : PrsV H' q ps := by
  obtain ⟨vs, h1, h2⟩ := h
  exact ⟨vs, s _ _ h1, paired_imp (fun _ _ ⟨a, e, z⟩ => ⟨a, e, s _ _ z⟩) h2⟩
theorem PrsV.put {H : Hp} {q : Addr} {ps : List Lrx9.Problem} {vs xs : List V} (h : H q = some (.lst xs)) (p : Paired (ProbV H) vs ps) : PrsV (upd H q (.lst vs)) q ps := by
  refine ⟨vs, upd_same, paired_imp (fun _ _ ⟨a, e, z⟩ => ⟨a, e, ?_⟩) p⟩
  rw [upd_ne]
  · exact z
  · rintro rfl
    rw [h] at z
    cases z
theorem prs_snoc {H : Hp} {u : Addr} {vs : List V} {ps : List Lrx9.Problem} {p : Lrx9.Problem} (h : Paired (ProbV H) vs ps) (hu : H u = none) : Paired (ProbV (upd H u (.tup (vN [p.kind, p.station, p.class_])))) (vs ++ [.ref u]) (ps ++ [p]) :=
  paired_snoc ⟨u, rfl, upd_same⟩ (paired_imp (fun _ _ ⟨a, e, z⟩ => ⟨a, e, Same.new hu _ _ z⟩) h)
def sp_place_problems (K : PySem.W.Frag) : Sp := sp2 fun a b H Q _ => ∃ (d : MD) (M : Lrx9.Model) (pb : Addr) (i r : Nat), a = .ref d.a ∧ b = .ref pb ∧ H pb = some (.tup [.int (i : Int), .int (r : Int)]) ∧ i < M.stations.length ∧ r < M.classes.length ∧ MdO K H d M ∧ Qu.Wf M ∧
  ∀ q H', Same H H' → H q = none → PrsV H' q (Qu.placePs M i r) → Q (.ref q) H'
/-- between the tests -/
def MidP (H : Hp) (d : MD) (pb q : Addr) (ps : List Lrx9.Problem) (σ : L2.St) (H' : Hp) : Prop := σ = [some (.ref d.a), some (.ref pb), some (.ref q)] ∧ Same H H' ∧ PrsV H' q ps
theorem ok_place_problems {w : World} {K : PySem.W.Frag} {mg : Str → Option Value} {base : Heap} (T : Txt w K mg) : OKF w K mg base (CX0) 5 d_place_problems ["model", "place"] (sp_place_problems K) := by
  refine okf_mk (k := 4) T 21 rfl sc_place_problems rfl rfl (fun _ _ _ _ _ _ us hl => match us, hl with | [_, _], _ => rfl) sp2_len (fun f cdv A outer s H vs Q E hr h => ?_)
  have hu := hu_of hr
  have hu64 := hr.units
  refine ⟨_, (PSs.nox (pss_cons (ps_set (i := 2) sc_place_problems.nd rfl (Or.inl rfl) (pe_lst pa_nil))
      (pss_mid (ps_if (pt_cmpR (op_notInT (hu65_of hr)) (pe_ok (ok_sum_of T) (hr.mono (by decide)) rfl T.g_sum_of pass0 (pa_cons (pv 0) (pa_cons (pv 1) pa_nil))) (pe_tup (pa_cons (pe_gref rfl (T.g_NOUGHT)) (pa_cons (pe_gref rfl (T.g_ONE)) pa_nil))) (by rfl)) (pss_one (ps_expr (pe_bm PySem.F.plainAttrs_list PySem.F.slot_list_append PySem.F.type_list_append mt_append (pv 2) (pa_cons (pe_tup (pa_cons (pe_gint rfl (T.int_OTHER_SUM)) (pa_cons (pe_ix ix_tup (pv 1) pe_int (fun _ _ => rfl)) (pa_cons (pe_ix ix_tup (pv 1) pe_int (fun _ _ => rfl)) pa_nil)))) pa_nil))))
      pss_nil)
      (pss_mid (ps_if (PW.pt (pw_and (pt_val (pe_ok (ok_is_used T) (hr.mono (by decide)) rfl T.g_is_used pass0 (pa_cons (pv 0) (pa_cons (pv 1) pa_nil)))) (pw_and1 (pt_cmp (pc_dnotin hu (pv 1) (pe_fld (pv 0) rfl)))))) (pss_one (ps_expr (pe_bm PySem.F.plainAttrs_list PySem.F.slot_list_append PySem.F.type_list_append mt_append (pv 2) (pa_cons (pe_tup (pa_cons (pe_gint rfl (T.int_NO_SERVICE)) (pa_cons (pe_ix ix_tup (pv 1) pe_int (fun _ _ => rfl)) (pa_cons (pe_ix ix_tup (pv 1) pe_int (fun _ _ => rfl)) pa_nil)))) pa_nil))))
      pss_nil)
      (pss_mid (ps_if (PW.pt (pw_and (pt_not (pt_val (pe_ok (ok_is_used T) (hr.mono (by decide)) rfl T.g_is_used pass0 (pa_cons (pv 0) (pa_cons (pv 1) pa_nil))))) (pw_and1 (pt_cmp (pc_din hu (pv 1) (pe_fld (pv 0) rfl)))))) (pss_one (ps_expr (pe_bm PySem.F.plainAttrs_list PySem.F.slot_list_append PySem.F.type_list_append mt_append (pv 2) (pa_cons (pe_tup (pa_cons (pe_gint rfl (T.int_NOT_USED)) (pa_cons (pe_ix ix_tup (pv 1) pe_int (fun _ _ => rfl)) (pa_cons (pe_ix ix_tup (pv 1) pe_int (fun _ _ => rfl)) pa_nil)))) pa_nil))))
      pss_nil)
      (pss_one (ps_ret (pv 2)))))))), ?_⟩
  obtain ⟨_, _, rfl, d, M, pb, i, r, rfl, rfl, hb, hi, hr2, MO, wf, hQ⟩ := h
  have big : (100 : Nat) < sizeLine := by decide
  refine ⟨by show 0 ≤ sizeLine; decide, fun q hq => ?_⟩
  have s1 : Same H (upd H q (.lst [])) := Same.new hq
  have P1 : PrsV (upd H q (.lst [])) q [] := ⟨[], upd_same, .nil⟩
  generalize upd H q (.lst []) = H1 at *
  obtain ⟨o, g, -, iff⟩ := tab_get (e := ⟨i, r, 0, 0, Lrx1.zero⟩) (z := .ref (He.ga K "NOUGHT")) MO.sv (key2_ok (w := w) wf.nst wf.ncl) (fun e h => Qu.pl_sm h wf.nst wf.ncl) wf.sv ⟨hi, hr2, rfl, rfl⟩ hb ⟨_, rfl, T.t_NOUGHT H⟩
  have sv := (Qu.val_any wf.sv i r)
  have os := some_any sv iff
  have gs : ∀ H', Same H H' → DGet H' d.sv (.ref pb) o := fun H' s => by
    obtain ⟨o', g', -, iff'⟩ := tab_get (e := ⟨i, r, 0, 0, Lrx1.zero⟩) (z := .ref (He.ga K "NOUGHT")) (MO.same s).sv (key2_ok (w := w) wf.nst wf.ncl) (fun e h => Qu.pl_sm h wf.nst wf.ncl) wf.sv ⟨hi, hr2, rfl, rfl⟩ (s _ _ hb) ⟨_, rfl, T.t_NOUGHT H'⟩
    rcases g with ⟨kvs, k, h1, h2, h3⟩ | ⟨kvs, k, b, h1, h2, h3, h4⟩
    · exact .inl ⟨kvs, k, h1.imp (fun z => s _ _ z) fun ⟨x, z⟩ => ⟨x, s _ _ z⟩, h2, h3⟩
    · exact .inr ⟨kvs, k, b, h1.imp (fun z => s _ _ z) fun ⟨x, z⟩ => ⟨x, s _ _ z⟩, h2, s _ _ h3, h4⟩
  have add : ∀ (k : Nat) (ps : List Lrx9.Problem) (H2 : Hp), Same H H2 → PrsV H2 q ps → ps.length ≤ 3 → ∃ vs, H2 q = some (.lst vs) ∧ vs.length < sizeLine ∧ ∀ u, H2 u = none → (upd H2 u (.tup [.int (k : Int), .int (i : Int), .int (r : Int)])) q = some (.lst vs) ∧
      Same H (upd (upd H2 u (.tup [.int (k : Int), .int (i : Int), .int (r : Int)])) q (.lst (vs ++ [.ref u]))) ∧ PrsV (upd (upd H2 u (.tup [.int (k : Int), .int (i : Int), .int (r : Int)])) q (.lst (vs ++ [.ref u]))) q (ps ++ [⟨k, i, r⟩]) := by
    rintro k ps H2 s2 ⟨vs, h1, h2⟩ hl
    refine ⟨vs, h1, ?_, fun u hu => ?_⟩
    · rw [paired_len h2]; omega
    have e := Same.new (o := .tup [.int (k : Int), .int (i : Int), .int (r : Int)]) hu _ _ h1
    exact ⟨e, (s2.to hu).put hq, PrsV.put e (prs_snoc (p := ⟨k, i, r⟩) h2 hu)⟩
  refine ⟨MidP H d pb q (if Lrx9.outSum M i r ≠ Lrx1.zero ∧ Lrx9.outSum M i r ≠ Lrx1.one then [⟨1, i, r⟩] else []), ?_, ?_⟩
  · refine ⟨_, rfl, _, rfl, _, _, rfl, d, M, pb, i, r, rfl, rfl, s1 _ _ hb, hi, hr2, MO.same s1, wf, fun v H2 s2 fv => ?_⟩
    obtain ⟨fa, rfl, hf⟩ := fv
    have s02 := s1.trans s2
    have P2 := P1.same s2
    refine ⟨by show 2 ≤ sizeLine; decide, fun t ht => ?_⟩
    have s3 : Same H2 (upd H2 t (.tup [.ref (He.ga K "NOUGHT"), .ref (He.ga K "ONE")])) := Same.new ht
    refine ⟨_, [twoD 0 1, twoD 1 1], two_dp (s3.seqT hf), .tup (SqT.of upd_same) (.cons (two_dp (T.t_NOUGHT _)) (.cons (two_dp (T.t_ONE _)) .nil)), two_shaped _ _, by decide +kernel, _, rfl, ?_⟩
    rw [sum_in]
    have P3 := P2.same s3
    have s03 := s02.trans s3
    generalize upd H2 t (.tup [V.ref (He.ga K "NOUGHT"), .ref (He.ga K "ONE")]) = H3 at *
    refine ite2 (fun c => ?_) (fun c => ?_)
    · obtain ⟨vs, h1, h2, h3⟩ := add 1 [] H3 s03 P3 (by decide)
      refine ⟨_, rfl, .inl ⟨rfl, _, SqL.of h1⟩, _, rfl, _, _, _, _, rfl, rfl, SqT.of (s03 _ _ hb), at0, _, rfl, _, _, _, _, rfl, rfl, SqT.of (s03 _ _ hb), at1, by show 3 ≤ sizeLine; decide, fun u hu => ?_⟩
      obtain ⟨k1, k2, k3⟩ := h3 u hu
      refine ⟨q, vs, .ref u, rfl, rfl, k1, h2, rfl, k2, ?_⟩
      rw [if_pos (of_decide_eq_true c)]
      exact k3
    · refine ⟨rfl, s03, ?_⟩
      rw [if_neg fun z => c (decide_eq_true z)]
      exact P3
  · rintro σ H4 ⟨rfl, s4, P4⟩
    have l4 : ∀ ps : List Lrx9.Problem, ps = (if Lrx9.outSum M i r ≠ Lrx1.zero ∧ Lrx9.outSum M i r ≠ Lrx1.one then [⟨1, i, r⟩] else []) → ps.length ≤ 1 := fun ps e => by
      rw [e]
      split <;> simp
    have hQ := hQ q
    unfold Qu.placePs at hQ
    generalize (if Lrx9.outSum M i r ≠ Lrx1.zero ∧ Lrx9.outSum M i r ≠ Lrx1.one then [(⟨1, i, r⟩ : Lrx9.Problem)] else []) = L1 at *
    have l4 := l4 L1 rfl
    refine ⟨MidP H d pb q (L1 ++ (if Lrx9.isUsed M i r ∧ Lrx9.valueAt M.services i r 0 0 = Lrx1.zero then [⟨2, i, r⟩] else [])), ?_, ?_⟩
    · refine ⟨_, rfl, _, rfl, _, _, rfl, d, M, pb, i, r, rfl, rfl, s4 _ _ hb, hi, hr2, MO.same s4, wf, fun H5 s5 => ⟨_, rfl, ?_⟩⟩
      have s05 := s4.trans s5
      have P5 := P4.same s5
      refine ite2 (fun c => ?_) (fun c => ?_)
      · refine ⟨_, rfl, _, rfl, _, _, _, _, _, rfl, s05 _ _ MO.ob, T.c_Model, T.n_Model_services, rfl, _, o, rfl, gs _ s05, _, rfl, ?_⟩
        rw [os, sv, Bool.not_not]
        refine ite2 (fun c2 => ?_) (fun c2 => ?_)
        · obtain ⟨vs, h1, h2, h3⟩ := add 2 L1 H5 s05 P5 (by omega)
          refine ⟨_, rfl, .inl ⟨rfl, _, SqL.of h1⟩, _, rfl, _, _, _, _, rfl, rfl, SqT.of (s05 _ _ hb), at0, _, rfl, _, _, _, _, rfl, rfl, SqT.of (s05 _ _ hb), at1, by show 3 ≤ sizeLine; decide, fun u hu => ?_⟩
          obtain ⟨k1, k2, k3⟩ := h3 u hu
          refine ⟨q, vs, .ref u, rfl, rfl, k1, h2, rfl, k2, ?_⟩
          rw [if_pos ⟨c, of_decide_eq_true c2⟩]
          exact k3
        · refine ⟨rfl, s05, ?_⟩
          rw [if_neg fun z => c2 (decide_eq_true z.2), List.append_nil]
          exact P5
      · refine ⟨rfl, s05, ?_⟩
        rw [if_neg fun z => c z.1, List.append_nil]
        exact P5
    · rintro σ H6 ⟨rfl, s6, P6⟩
      have l6 : (L1 ++ (if Lrx9.isUsed M i r ∧ Lrx9.valueAt M.services i r 0 0 = Lrx1.zero then [(⟨2, i, r⟩ : Lrx9.Problem)] else [])).length ≤ 2 := by
        rw [List.length_append]
        split <;> simp <;> omega
      generalize L1 ++ (if Lrx9.isUsed M i r ∧ Lrx9.valueAt M.services i r 0 0 = Lrx1.zero then [(⟨2, i, r⟩ : Lrx9.Problem)] else []) = L2 at *
      refine ⟨MidP H d pb q (L2 ++ (if Lrx9.isUsed M i r = false ∧ Lrx9.valueAt M.services i r 0 0 ≠ Lrx1.zero then [⟨3, i, r⟩] else [])), ?_, ?_⟩
      · refine ⟨_, rfl, _, rfl, _, _, rfl, d, M, pb, i, r, rfl, rfl, s6 _ _ hb, hi, hr2, MO.same s6, wf, fun H5 s5 => ⟨_, rfl, ?_⟩⟩
        have s05 := s6.trans s5
        have P5 := P6.same s5
        refine ite2 (fun c => ?_) (fun c => ?_)
        · refine ⟨_, rfl, _, rfl, _, _, _, _, _, rfl, s05 _ _ MO.ob, T.c_Model, T.n_Model_services, rfl, _, o, rfl, gs _ s05, _, rfl, ?_⟩
          rw [os, sv]
          refine ite2 (fun c2 => ?_) (fun c2 => ?_)
          · obtain ⟨vs, h1, h2, h3⟩ := add 3 L2 H5 s05 P5 (by omega)
            refine ⟨_, rfl, .inl ⟨rfl, _, SqL.of h1⟩, _, rfl, _, _, _, _, rfl, rfl, SqT.of (s05 _ _ hb), at0, _, rfl, _, _, _, _, rfl, rfl, SqT.of (s05 _ _ hb), at1, by show 3 ≤ sizeLine; decide, fun u hu => ?_⟩
            obtain ⟨k1, k2, k3⟩ := h3 u hu
            refine ⟨q, vs, .ref u, rfl, rfl, k1, h2, rfl, k2, ?_⟩
            rw [if_pos ⟨by simpa using c, by simpa using c2⟩]
            exact k3
          · refine ⟨rfl, s05, ?_⟩
            rw [if_neg fun z => c2 (by simpa using z.2), List.append_nil]
            exact P5
        · refine ⟨rfl, s05, ?_⟩
          rw [if_neg fun z => c (by simpa using z.1), List.append_nil]
          exact P5
      · rintro σ H7 ⟨rfl, s7, P7⟩
        exact ⟨_, rfl, hQ H7 s7 hq P7⟩
end Q
set_option Elab.async false
set_option linter.all false
set_option maxRecDepth 100000
set_option maxHeartbeats 4000000
namespace Q
open PySem PySem.Spec PyProof.Rows L2
theorem filt_ok (f g : List Nat → Bool) (ks : Lrx9.Entry → List Nat) (es : List Lrx9.Entry) (h : ∀ e, f (ks e) = g (ks e)) : es.filter (fun e => f (ks e)) = es.filter fun e => g (ks e) := List.filter_congr fun e _ => h e
theorem prs_one {H : Hp} {u q : Addr} {p : Lrx9.Problem} (hu : H u = some (.tup (vN [p.kind, p.station, p.class_]))) (hq : H q = none) : PrsV (upd H q (.lst [.ref u])) q [p] := ⟨_, upd_same, .cons ⟨u, rfl, Same.new hq _ _ hu⟩ .nil⟩
def sp_class_problems (K : PySem.W.Frag) : Sp := sp2 fun a b H Q _ => ∃ (d : MD) (M : Lrx9.Model) (r : Nat), a = .ref d.a ∧ b = .int (r : Int) ∧ r < M.classes.length ∧ MdO K H d M ∧ Qu.Wf M ∧
  ∀ q H', Same H H' → H q = none → PrsV H' q (Qu.classPs M r) → Q (.ref q) H'
theorem ok_class_problems {w : World} {K : PySem.W.Frag} {mg : Str → Option Value} {base : Heap} (T : Txt w K mg) : OKF w K mg base (CX0) 1 d_class_problems ["model", "number"] (sp_class_problems K) := by
  refine okf_mk (k := 0) T 22 rfl sc_class_problems rfl rfl (fun _ _ _ _ _ _ us hl => match us, hl with | [_, _], _ => rfl) sp2_len (fun f cdv A outer s H vs Q E hr h => ?_)
  have hu := hu_of hr
  have hu64 := hr.units
  refine ⟨_, (PSs.nox (pss_cons (ps_set (i := 2) sc_class_problems.nd rfl (Or.inl rfl) (pe_cmpR (op_neD hu64) (pe_lc (tt := tTest (tOp rEq (tOp (rIxT K) (tVar 3) (tC (.int 1))) (tVar 1))) (own := [("place", 3)]) (g := gName 3)  rfl sc_class_problems.nd (pi_list (pe_callTy (call_list_dT rfl) rfl T.f_list (by decide +kernel) (pa_cons (pe_fld (pv 0) rfl) pa_nil))) (blkOk_by (N := N_class_problems) (sc := defScope s_class_problems) (by decide +kernel)) (fun _ _ _ _ _ => (pg_name (i := 3) sc_class_problems.nd rfl (Or.inl rfl))) (fun _ _ _ _ _ => (pts_one (pt_cmpR op_eq (pe_ix ix_tup (pv 3) pe_int (fun _ _ => rfl)) (pv 1) (nomark _)))) (fun _ _ _ _ _ => (pv 3))) (pe_lst pa_nil) (nomark _)))
      (pss_cons (ps_set (i := 4) sc_class_problems.nd rfl (Or.inl rfl) (pe_cmp (pc_din hu (pv 1) (pe_fld (pv 0) rfl))))
      (pss_mid (ps_if (PW.pt (pw_and (pt_val (pv 2)) (pw_and1 (pt_val (pv 4))))) (pss_one (ps_ret (pe_lst (pa_cons (pe_tup (pa_cons (pe_gint rfl (T.int_BOTH)) (pa_cons pe_int (pa_cons (pv 1) pa_nil)))) pa_nil))))
      pss_nil)
      (pss_cons (ps_setLc (i := 5) (tt := tAnd (tTest (tOp rEq (tOp (rIxT K) (tVar 6) (tC (.int 3))) (tVar 1))) (tTest (tOp rNe (tOp (rIxT K) (tVar 6) (tC (.int 1))) (tVar 1)))) (own := [("route", 6)]) (g := gName 6)  rfl sc_class_problems.nd rfl rfl (sw_true rfl rfl rfl (by decide +kernel)) (pi_list (pe_callTy (call_list_dT rfl) rfl T.f_list (by decide +kernel) (pa_cons (pe_fld (pv 0) rfl) pa_nil))) (blkOk_by (N := N_class_problems) (sc := defScope s_class_problems) (by decide +kernel)) (fun _ _ _ _ _ => (pg_name (i := 6) sc_class_problems.nd rfl (Or.inl rfl))) (fun _ _ _ _ _ => (pts_one (PW.pt (pw_and (pt_cmpR op_eq (pe_ix ix_tup (pv 6) pe_int (fun _ _ => rfl)) (pv 1) (nomark _)) (pw_and1 (pt_cmpR op_ne (pe_ix ix_tup (pv 6) pe_int (fun _ _ => rfl)) (pv 1) (nomark _))))))) (fun _ _ _ _ _ => (pv 6)))
      (pss_one (ps_ret (pe_ifExp (PW.pt (pw_and (pt_not (pt_val (pv 2))) (pw_and (pt_not (pt_val (pv 4))) (pw_and1 (pt_cmpR (op_eqD hu64) (pv 5) (pe_lst pa_nil) (nomark _)))))) (pe_lst (pa_cons (pe_tup (pa_cons (pe_gint rfl (T.int_NEITHER)) (pa_cons pe_int (pa_cons (pv 1) pa_nil)))) pa_nil)) (pe_lst pa_nil))))))))), ?_⟩
  obtain ⟨_, _, rfl, d, M, r, rfl, rfl, hr2, MO, wf, hQ⟩ := h
  have big : (100000 : Nat) ≤ sizeLine := by decide
  obtain ⟨kar, ear, ar1, ar2, ar3⟩ := id MO.ar
  refine ⟨_, rfl, _, _, _, _, _, rfl, MO.ob, T.c_Model, T.n_Model_arrivals, rfl, _, kar, rfl, .inl ar1, fun p bs hp ik => ?_⟩
  have kb : Paired (fun b e => H b = some (.tup (vN (ks2 e)))) bs ear := keys_of ar2 ik
  have s1 : Same H (upd H p (.lst (bs.map V.ref))) := Same.new hp
  have f1 : (upd H p (.lst (bs.map V.ref))) p = some (.lst (bs.map V.ref)) := upd_same
  generalize upd H p (.lst (bs.map V.ref)) = H1 at *
  have la := (wf.ar.ord (fun e h => Qu.pl_sm h wf.nst wf.ncl)).len
  have lr := (wf.ro.ord (fun e h => Qu.ro_sm h wf.nst wf.ncl)).len
  refine ⟨p, rfl, ⟨_, SqL.of f1⟩, fun D hD => ?_⟩
  refine lc_keep (xs := bs.map V.ref) (fun v => (fun ns => ns.getD 1 0 == r) (tupN H v)) (fun x y _ => y = x) (fun _ _ _ _ _ h => h) hD (SqL.of f1) (by rw [List.length_map, paired_len kb, ar3.length_eq]; omega) (fun _ => rfl) ?_ ?_ ?_
  · intro x H' Q' hx s q
    obtain ⟨b, e, he, rfl, hbe⟩ := key_mem kb hx
    have s02 := s1.trans s
    refine ⟨_, rfl, _, _, _, _, rfl, rfl, SqT.of (s02 _ _ hbe), at1, _, rfl, rfl, _, rfl, ?_⟩
    rw [dec_ieq]
    rw [show (fun ns : List Nat => ns.getD 1 0 == r) (tupN H (V.ref b)) = (e.class_ == r) from by rw [tupN_of hbe]; rfl] at q
    exact q H' (Same.refl _)
  · intro x H' Q' hx hp s ho q
    exact ⟨_, rfl, q _ H' (Same.refl _) rfl⟩
  intro ys H2 s2 eD hpr
  have ey := paired_eq hpr
  have kf := keys_filter (p := fun ns => ns.getD 1 0 == r) kb
  rw [← ey] at kf
  have s02 := s1.trans s2
  refine ⟨by show 0 ≤ sizeLine; decide, fun e he => ⟨_, _, .lst (SqL.of (Same.new he _ _ eD)) (keys_dp (s02.to he) kf), .lst (SqL.of upd_same) .nil, tups_shaped _, rfl, ?_⟩⟩
  rw [tups_nil, any_nil ar3]
  have s3 := s02.to (o := .lst []) he
  generalize upd H2 e (.lst []) = H3 at *
  rw [show (fun e : Lrx9.Entry => (ks2 e).getD 1 0 == r) = fun e => e.class_ == r from rfl]
  obtain ⟨o, g, -, iff⟩ := pop_get (MO.same s3).po wf.ncl hr2 wf.po
  have os := some_any (Qu.pop_any wf.po r) iff
  unfold Qu.classPs at hQ
  refine ⟨_, rfl, _, rfl, _, _, _, _, _, rfl, s3 _ _ MO.ob, T.c_Model, T.n_Model_populations, rfl, _, o, rfl, g, ?_⟩
  rw [os]
  generalize M.arrivals.any (fun e => e.class_ == r) = cm at *
  generalize M.populations.any (fun e => e.class_ == r) = sy at *
  refine ⟨fun σ H' => σ = [some (.ref d.a), some (.int (r : Int)), some (.bl cm), none, some (.bl sy), none, none] ∧ H' = H3 ∧ (cm && sy) = false, ?_, ?_⟩
  · refine ⟨_, rfl, _, rfl, ?_⟩
    refine ite2 (fun c => ?_) (fun c => ?_)
    · refine ⟨_, rfl, _, rfl, ite2 (fun c2 => ?_) (fun c2 => ?_)⟩
      · have c : cm = true := c
        have c2 : sy = true := c2
        subst c c2
        refine ⟨_, rfl, by show 3 ≤ sizeLine; decide, fun u hu => ⟨by show 1 ≤ sizeLine; decide, fun q hq => ?_⟩⟩
        exact hQ q _ ((s3.to hu).to hq) ((s3.to hu).no q hq) (prs_one (p := ⟨4, 0, r⟩) upd_same hq)
      · have c2 : sy = false := Bool.eq_false_iff.mpr c2
        exact ⟨rfl, rfl, by rw [c2, Bool.and_false]⟩
    · have c : cm = false := Bool.eq_false_iff.mpr c
      exact ⟨rfl, rfl, by rw [c, Bool.false_and]⟩
  · rintro σ H4 ⟨rfl, rfl, nb⟩
    rw [nb, if_neg Bool.false_ne_true, List.nil_append] at hQ
    obtain ⟨kro, ero, ro1, ro2, ro3⟩ := id (MO.same s3).ro
    refine ⟨_, rfl, _, _, _, _, _, rfl, s3 _ _ MO.ob, T.c_Model, T.n_Model_routes, rfl, _, kro, rfl, .inl ro1, fun p bs hp ik => ?_⟩
    have kb : Paired (fun b e => H4 b = some (.tup (vN (ks4 e)))) bs ero := keys_of ro2 ik
    have s4 : Same H4 (upd H4 p (.lst (bs.map V.ref))) := Same.new hp
    have f4 : (upd H4 p (.lst (bs.map V.ref))) p = some (.lst (bs.map V.ref)) := upd_same
    generalize upd H4 p (.lst (bs.map V.ref)) = H5 at *
    refine ⟨p, rfl, ⟨_, SqL.of f4⟩, fun D hD => ?_⟩
    refine lc_keep (xs := bs.map V.ref) (fun v => (fun ns => ns.getD 3 0 == r && !(ns.getD 1 0 == r)) (tupN H4 v)) (fun x y _ => y = x) (fun _ _ _ _ _ h => h) hD (SqL.of f4) (by rw [List.length_map, paired_len kb, ro3.length_eq]; omega) (fun _ => rfl) ?_ ?_ ?_
    · intro x H' Q' hx s q
      obtain ⟨b, e, he, rfl, hbe⟩ := key_mem kb hx
      have s05 := s4.trans s
      have x3 : atI (vN (ks4 e)) 3 = some (.int (e.toClass : Int)) := vN_at (l := ks4 e) (k := 3) rfl
      rw [show (fun ns : List Nat => ns.getD 3 0 == r && !(ns.getD 1 0 == r)) (tupN H4 (V.ref b)) = (e.toClass == r && !(e.class_ == r)) from by rw [tupN_of hbe]; rfl] at q
      refine ⟨_, rfl, _, _, _, _, rfl, rfl, SqT.of (s05 _ _ hbe), x3, _, rfl, rfl, _, rfl, ?_⟩
      rw [dec_ieq]
      refine ite2 (fun c => ?_) (fun c => ?_)
      · refine ⟨_, rfl, _, _, _, _, rfl, rfl, SqT.of (s05 _ _ hbe), at1, _, rfl, rfl, _, rfl, ?_⟩
        rw [dec_ieq]
        rw [c, Bool.true_and] at q
        exact q H' (Same.refl _)
      · rw [Bool.eq_false_iff.mpr c, Bool.false_and] at q
        exact q H' (Same.refl _)
    · intro x H' Q' hx hp s ho q
      exact ⟨_, rfl, q _ H' (Same.refl _) rfl⟩
    intro ys H6 s6 eD hpr
    have ey := paired_eq hpr
    have kf := keys_filter (p := fun ns => ns.getD 3 0 == r && !(ns.getD 1 0 == r)) kb
    rw [← ey] at kf
    have s46 := s4.trans s6
    have s06 := s3.trans s46
    have any5 := any_nil (f := ks4) ro3 fun e => e.toClass == r && !(e.class_ == r)
    rw [show (M.routes.any fun e => e.toClass == r && !(e.class_ == r)) = M.routes.any fun e => e.class_ != r && e.toClass == r from congrArg (fun f => M.routes.any f) (funext fun e => Bool.and_comm _ _)] at any5
    rw [← any5] at hQ
    have nil : ∀ H7, Same H H7 → (!cm && (!sy && !(!decide ((ero.filter fun e => e.toClass == r && !(e.class_ == r)).map ks4 = [])))) = false → ∀ q, H7 q = none → Q (.ref q) (upd H7 q (.lst [])) := fun H7 s7 c q hq => by
      rw [c, if_neg Bool.false_ne_true] at hQ
      exact hQ q _ (s7.to hq) (s7.no q hq) ⟨[], upd_same, .nil⟩
    refine ⟨_, rfl, _, rfl, ?_⟩
    cases cm with
    | true => exact iteF (iteF ⟨by show 0 ≤ sizeLine; decide, fun q hq => nil H6 s06 rfl q hq⟩)
    | false =>
      refine iteT ⟨_, rfl, _, rfl, ?_⟩
      cases sy with
      | true => exact iteF (iteF ⟨by show 0 ≤ sizeLine; decide, fun q hq => nil H6 s06 rfl q hq⟩)
      | false =>
        refine iteT ⟨_, rfl, by show 0 ≤ sizeLine; decide, fun e he => ⟨_, _, .lst (SqL.of (Same.new he _ _ eD)) (keys_dp (s46.to he) kf), .lst (SqL.of upd_same) .nil, tups_shaped _, rfl, _, rfl, ?_⟩⟩
        rw [tups_nil]
        refine ite2 (fun c => ?_) (fun c => ?_)
        · refine ⟨_, rfl, by show 3 ≤ sizeLine; decide, fun u hu => ⟨by show 1 ≤ sizeLine; decide, fun q hq => ?_⟩⟩
          have c := of_decide_eq_true c
          rw [if_pos (by rw [show (ero.filter fun e => e.toClass == r && !(e.class_ == r)).map ks4 = [] from c]; rfl)] at hQ
          exact hQ q _ (((s06.to he).to hu).to hq) (((s06.to he).to hu).no q hq) (prs_one (p := ⟨5, 0, r⟩) upd_same hq)
        · refine ⟨by show 0 ≤ sizeLine; decide, fun q hq => nil _ (s06.to he) ?_ q hq⟩
          have c : ¬ ((ero.filter fun e => e.toClass == r && !(e.class_ == r)).map ks4 = []) := fun z => c (decide_eq_true z)
          rw [decide_eq_false c]
          rfl
def sp_problems_of (K : PySem.W.Frag) : Sp := sp1 fun a H Q _ => ∃ (d : MD) (M : Lrx9.Model), a = .ref d.a ∧ MdO K H d M ∧ Qu.Wf M ∧ ∀ q H', Same H H' → H q = none → PrsV H' q (Lrx9.problems M) → Q (.ref q) H'
theorem prs_ext {H : Hp} {q b : Addr} {ps qs : List Lrx9.Problem} (h : PrsV H q ps) (h2 : PrsV H b qs) : ∃ xs zs, H q = some (.lst xs) ∧ H b = some (.lst zs) ∧ xs.length = ps.length ∧ zs.length = qs.length ∧ PrsV (upd H q (.lst (xs ++ zs))) q (ps ++ qs) := by
  obtain ⟨xs, e1, p1⟩ := h
  obtain ⟨zs, e2, p2⟩ := h2
  exact ⟨xs, zs, e1, e2, paired_len p1, paired_len p2, PrsV.put e1 (paired_app p1 p2)⟩
theorem ok_problems_of {w : World} {K : PySem.W.Frag} {mg : Str → Option Value} {base : Heap} (T : Txt w K mg) : OKF w K mg base (CX0) 6 d_problems_of ["model"] (sp_problems_of K) := by
  refine okf_mk (k := 5) T 23 rfl sc_problems_of rfl rfl (fun _ _ _ _ _ _ us hl => match us, hl with | [_], _ => rfl) sp1_len (fun f cdv A outer s H vs Q E hr h => ?_)
  refine ⟨_, (PSs.nox (pss_cons (ps_set (i := 1) sc_problems_of.nd rfl (Or.inl rfl) (pe_lst pa_nil))
      (pss_cons (ps_for PassesOwn.never rfl (pi_range1 rfl T.f_range (pa_cons (pe_callB call_len_seq rfl T.f_len boot_len (pa_cons (pe_fld (pv 0) rfl) pa_nil)) pa_nil)) (pg_name (i := 2) sc_problems_of.nd rfl (Or.inl rfl))
      (pss_one (ps_for PassesOwn.never rfl (pi_range1 rfl T.f_range (pa_cons (pe_callB call_len_seq rfl T.f_len boot_len (pa_cons (pe_fld (pv 0) rfl) pa_nil)) pa_nil)) (pg_name (i := 3) sc_problems_of.nd rfl (Or.inl rfl))
      (pss_one (ps_expr (pe_bm PySem.F.plainAttrs_list PySem.F.slot_list_extend PySem.F.type_list_extend mt_extend (pv 1) (pa_cons (pe_ok (ok_place_problems T) (hr.mono (by decide)) rfl T.g_place_problems pass0 (pa_cons (pv 0) (pa_cons (pe_tup (pa_cons (pv 2) (pa_cons (pv 3) pa_nil))) pa_nil))) pa_nil)))))))
      (pss_cons (ps_for PassesOwn.never rfl (pi_range1 rfl T.f_range (pa_cons (pe_callB call_len_seq rfl T.f_len boot_len (pa_cons (pe_fld (pv 0) rfl) pa_nil)) pa_nil)) (pg_name (i := 3) sc_problems_of.nd rfl (Or.inl rfl))
      (pss_one (ps_expr (pe_bm PySem.F.plainAttrs_list PySem.F.slot_list_extend PySem.F.type_list_extend mt_extend (pv 1) (pa_cons (pe_ok (ok_class_problems T) (hr.mono (by decide)) rfl T.g_class_problems pass0 (pa_cons (pv 0) (pa_cons (pv 3) pa_nil))) pa_nil)))))
      (pss_one (ps_ret (pv 1))))))), ?_⟩
  obtain ⟨_, rfl, d, M, rfl, MO, wf, hQ⟩ := h
  have big : (100000 : Nat) ≤ sizeLine := by decide
  obtain ⟨vst, st1, st2⟩ := id MO.st
  have lst := paired_len st2
  have nst := wf.nst
  have ncl := wf.ncl
  refine ⟨by show 0 ≤ sizeLine; decide, fun q hq => ?_⟩
  have s1 : Same H (upd H q (.lst [])) := Same.new hq
  have P1 : PrsV (upd H q (.lst [])) q [] := ⟨[], upd_same, .nil⟩
  generalize upd H q (.lst []) = H1 at *
  refine ⟨_, rfl, _, _, _, _, _, rfl, s1 _ _ MO.ob, T.c_Model, T.n_Model_stations, rfl, _, _, rfl, .inl (SqL.of (s1 _ _ st1)), _, rfl, by omega, by omega, for_it (walk_range (lo := 0)) (fun i σ H' => ∃ v2 v3, σ = [some (.ref d.a), some (.ref q), v2, v3] ∧ Same H H' ∧ PrsV H' q ((List.range i).flatMap (Qu.placesPs M))) ⟨none, none, rfl, s1, P1⟩ (fun _ _ _ _ _ => trivial) ?_ ?_⟩
  · rintro i x σ Hy H2 hi ⟨v2, v3, rfl, s2, P2⟩ ⟨ey, ex⟩
    subst ey
    have ex : x = V.int (i : Int) := ex.trans (congrArg V.int (Int.zero_add _))
    subst ex
    have hi : i < M.stations.length := by omega
    have l1 := Qu.flat_le (f := Qu.placesPs M) (n := 12) (l := List.range i) fun j _ => Qu.placesPs_len wf j
    rw [List.length_range] at l1
    rw [Qu.range_flat]
    generalize (List.range i).flatMap (Qu.placesPs M) = L at *
    refine ⟨_, rfl, _, _, _, _, _, rfl, s2 _ _ MO.ob, T.c_Model, T.n_Model_classes, rfl, _, _, rfl, .inl (SqL.of (s2 _ _ MO.cl)), _, rfl, by rw [words_len]; omega, by rw [words_len]; omega, for_it (walk_range (lo := 0)) (fun j σ H' => ∃ v3, σ = [some (.ref d.a), some (.ref q), some (.int (i : Int)), v3] ∧ Same H H' ∧ PrsV H' q (L ++ (List.range j).flatMap (Qu.placePs M i))) ⟨v3, rfl, s2, by rw [List.range_zero, List.flatMap_nil, List.append_nil]; exact P2⟩ (fun _ _ _ _ _ => trivial) ?_ ?_⟩
    · rintro j x σ Hy H3 hj ⟨v3, rfl, s3, P3⟩ ⟨ey, ex⟩
      subst ey
      have ex : x = V.int (j : Int) := ex.trans (congrArg V.int (Int.zero_add _))
      subst ex
      rw [words_len] at hj
      have hj : j < M.classes.length := by omega
      have l2 := Qu.flat_le (f := Qu.placePs M i) (n := 3) (l := List.range j) fun k _ => Qu.placePs_len M i k
      rw [List.length_range] at l2
      have l3 := Qu.placePs_len M i j
      obtain ⟨w3, e3, -⟩ := id P3
      refine ⟨_, rfl, .inl ⟨rfl, _, .inl (.inl e3)⟩, _, rfl, _, rfl, _, rfl, by show 2 ≤ sizeLine; decide, fun t ht => ?_⟩
      have s4 := Same.new (o := .tup [.int (i : Int), .int (j : Int)]) ht
      refine ⟨_, _, rfl, d, M, t, i, j, rfl, rfl, upd_same, hi, hj, MO.same (s3.trans s4), wf, fun b H5 s5 nb P5 => ?_⟩
      obtain ⟨xs, zs, k1, k2, k3, k4, k5⟩ := prs_ext ((P3.same s4).same s5) P5
      refine ⟨q, b, xs, zs, rfl, rfl, k1, k2, ?_, _, rfl, ((s3.trans s4).trans s5).put hq, ?_⟩
      · rw [k3, k4, List.length_append]
        omega
      · rw [Qu.range_flat, ← List.append_assoc]
        exact k5
    · rintro σ H3 ⟨v3, rfl, s3, P3⟩
      refine ⟨_, _, rfl, s3, ?_⟩
      rw [words_len, show ((M.classes.length : Nat) : Int).toNat = M.classes.length from Int.toNat_natCast _] at P3
      exact P3
  · rintro σ H2 ⟨v2, v3, rfl, s2, P2⟩
    rw [lst, show ((M.stations.length : Nat) : Int).toNat = M.stations.length from Int.toNat_natCast _] at P2
    rw [Qu.problems_eq] at hQ
    have l1 := Qu.flat_le (f := Qu.placesPs M) (n := 12) (l := List.range M.stations.length) fun j _ => Qu.placesPs_len wf j
    rw [List.length_range] at l1
    generalize (List.range M.stations.length).flatMap (Qu.placesPs M) = L at *
    refine ⟨_, rfl, _, _, _, _, _, rfl, s2 _ _ MO.ob, T.c_Model, T.n_Model_classes, rfl, _, _, rfl, .inl (SqL.of (s2 _ _ MO.cl)), _, rfl, by rw [words_len]; omega, by rw [words_len]; omega, for_it (walk_range (lo := 0)) (fun j σ H' => ∃ v3, σ = [some (.ref d.a), some (.ref q), v2, v3] ∧ Same H H' ∧ PrsV H' q (L ++ (List.range j).flatMap (Qu.classPs M))) ⟨v3, rfl, s2, by rw [List.range_zero, List.flatMap_nil, List.append_nil]; exact P2⟩ (fun _ _ _ _ _ => trivial) ?_ ?_⟩
    · rintro j x σ Hy H3 hj ⟨v3, rfl, s3, P3⟩ ⟨ey, ex⟩
      subst ey
      have ex : x = V.int (j : Int) := ex.trans (congrArg V.int (Int.zero_add _))
      subst ex
      rw [words_len] at hj
      have hj : j < M.classes.length := by omega
      have l2 := Qu.flat_le (f := Qu.classPs M) (n := 2) (l := List.range j) fun k _ => Qu.classPs_len M k
      rw [List.length_range] at l2
      have l3 := Qu.classPs_len M j
      obtain ⟨w3, e3, -⟩ := id P3
      refine ⟨_, rfl, .inl ⟨rfl, _, .inl (.inl e3)⟩, _, rfl, _, rfl, ?_⟩
      refine ⟨_, _, rfl, d, M, j, rfl, rfl, hj, MO.same s3, wf, fun b H5 s5 nb P5 => ?_⟩
      obtain ⟨xs, zs, k1, k2, k3, k4, k5⟩ := prs_ext (P3.same s5) P5
      refine ⟨q, b, xs, zs, rfl, rfl, k1, k2, ?_, _, rfl, (s3.trans s5).put hq, ?_⟩
      · rw [k3, k4, List.length_append]
        omega
      · rw [Qu.range_flat, ← List.append_assoc]
        exact k5
    · rintro σ H3 ⟨v3, rfl, s3, P3⟩
      rw [words_len, show ((M.classes.length : Nat) : Int).toNat = M.classes.length from Int.toNat_natCast _] at P3
      exact ⟨_, rfl, hQ q H3 s3 hq P3⟩
end Q
set_option Elab.async false
set_option linter.all false
set_option maxRecDepth 100000
set_option maxHeartbeats 4000000
namespace Q
open PySem PySem.Spec PyProof.Rows L2
/-! ### no line holds a line feed -/
def No10 (w : List Nat) : Prop := ∀ b ∈ w, b ≠ 10 ∧ b < 200
theorem digits_no10 : ∀ f n, No10 (Lrx9.digitsOf f n)
  | 0, _, b, h => by cases h
  | f + 1, n, b, h => by
    rw [Lrx9.digitsOf] at h
    split at h
    · rw [List.mem_singleton] at h
      omega
    · rcases List.mem_append.mp h with h | h
      · exact digits_no10 f _ b h
      · rw [List.mem_singleton] at h
        omega
theorem nat_no10 (n : Nat) : No10 (Lrx9.natText n) := digits_no10 _ _
theorem int_no10 (i : Int) : No10 (intText i) := fun b h => by
  unfold intText at h
  rcases List.mem_append.mp h with h | h
  · split at h
    · rw [List.mem_singleton] at h
      omega
    · cases h
  · exact nat_no10 _ b h
theorem frac_no10 (q : Fr) : No10 (Lrx9.fractionText q) := fun b h => by
  rw [frac_text] at h
  rcases List.mem_append.mp h with h | h
  · exact int_no10 _ b h
  · split at h
    · cases h
    · rcases List.mem_cons.mp h with h | h
      · omega
      · exact nat_no10 _ b h
theorem kw_no10 (k : Nat) : No10 (Lrx9.keyword k) := by
  unfold Lrx9.keyword
  rw [List.getD_eq_getElem?_getD]
  cases h : Lrx9.keywords[k]? with
  | none => exact fun b h => by cases h
  | some w =>
    have all : ∀ w ∈ Lrx9.keywords, ∀ b ∈ w, b ≠ 10 ∧ b < 200 := by decide
    exact all w (List.mem_of_getElem? h)
theorem nm_no10 {n : List Nat} (h : Qu.NmOk n) : No10 n := fun b hb => by
  have := h.by_ b hb
  unfold Lrx9.isNameByte Lrx9.isLetter Lrx9.isDigit at this
  simp only [Bool.or_eq_true, decide_eq_true_iff, beq_iff_eq] at this
  omega
theorem cn_no10 {M : Lrx9.Model} (wf : Qu.Wf M) (r : Nat) : No10 (Lrx9.className M r) := by
  unfold Lrx9.className
  rw [List.getD_eq_getElem?_getD]
  cases h : M.classes[r]? with
  | none => exact fun b h => by cases h
  | some w => exact nm_no10 (wf.cl w (List.mem_of_getElem? h))
theorem sn_no10 {M : Lrx9.Model} (wf : Qu.Wf M) (r : Nat) : No10 (Lrx9.stationName M r) := by
  unfold Lrx9.stationName
  cases h : M.stations[r]? with
  | none => exact fun b h => by cases h
  | some s => exact nm_no10 (wf.st s (List.mem_of_getElem? h)).1
theorem row_no10 {M : Lrx9.Model} (wf : Qu.Wf M) {k : Nat} {pls : Lrx9.Entry → List (Nat × Nat)} {e : Lrx9.Entry} : ∀ w ∈ rowOf M (Lrx9.keyword k) pls e, No10 w := by
  intro w hw
  unfold rowOf at hw
  rcases List.mem_cons.mp hw with rfl | hw
  · exact kw_no10 _
  · rcases List.mem_append.mp hw with hw | hw
    · obtain ⟨p, -, hw⟩ := List.mem_flatMap.mp hw
      unfold plW at hw
      simp only [List.mem_cons, List.not_mem_nil, or_false] at hw
      rcases hw with rfl | rfl
      · exact sn_no10 wf _
      · exact cn_no10 wf _
    · rw [List.mem_singleton] at hw
      rw [hw]
      exact frac_no10 _
theorem can_no10 {M : Lrx9.Model} (wf : Qu.Wf M) : ∀ ws ∈ canRows M, ∀ w ∈ ws, No10 w := by
  intro ws hw
  unfold canRows at hw
  rcases List.mem_append.mp hw with hw | hw
  · rcases List.mem_append.mp hw with hw | hw
    · rcases List.mem_append.mp hw with hw | hw
      · rcases List.mem_append.mp hw with hw | hw
        · rcases List.mem_append.mp hw with hw | hw
          · rcases List.mem_append.mp hw with hw | hw
            · obtain ⟨n, hn, rfl⟩ := List.mem_map.mp hw
              intro w hw
              simp only [List.mem_cons, List.not_mem_nil, or_false] at hw
              rcases hw with rfl | rfl
              · exact kw_no10 _
              · exact nm_no10 (wf.cl _ hn)
            · obtain ⟨s, hs, rfl⟩ := List.mem_map.mp hw
              intro w hw
              unfold staRow at hw
              rcases List.mem_append.mp hw with hw | hw
              · simp only [List.mem_cons, List.not_mem_nil, or_false] at hw
                rcases hw with rfl | rfl | rfl | rfl | rfl
                · exact kw_no10 _
                · exact nm_no10 (wf.st s hs).1
                · exact kw_no10 _
                · exact kw_no10 _
                · exact nat_no10 _
              · split at hw
                · cases hw
                · simp only [List.mem_cons, List.not_mem_nil, or_false] at hw
                  rcases hw with rfl | rfl
                  · exact kw_no10 _
                  · exact nat_no10 _
          · obtain ⟨e, he, rfl⟩ := List.mem_map.mp hw
            exact row_no10 wf
        · obtain ⟨e, he, rfl⟩ := List.mem_map.mp hw
          exact row_no10 wf
      · obtain ⟨e, he, rfl⟩ := List.mem_map.mp hw
        exact row_no10 wf
    · obtain ⟨e, he, rfl⟩ := List.mem_map.mp hw
      exact row_no10 wf
  · obtain ⟨e, he, rfl⟩ := List.mem_map.mp hw
    intro w hw
    unfold popRow at hw
    simp only [List.mem_cons, List.not_mem_nil, or_false] at hw
    rcases hw with rfl | rfl | rfl
    · exact kw_no10 _
    · exact cn_no10 wf _
    · exact int_no10 _
theorem joined_no10 : ∀ {ws : List (List Nat)}, (∀ w ∈ ws, No10 w) → No10 (Lrx9.joined ws)
  | [], _ => fun b h => by cases h
  | [w], h => h w List.mem_cons_self
  | w :: x :: r, h => fun b hb => by
    rw [show Lrx9.joined (w :: x :: r) = w ++ [32] ++ Lrx9.joined (x :: r) from rfl] at hb
    rcases List.mem_append.mp hb with hb | hb
    · rcases List.mem_append.mp hb with hb | hb
      · exact h w List.mem_cons_self b hb
      · rw [List.mem_singleton] at hb
        omega
    · exact joined_no10 (fun y hy => h y (List.mem_cons_of_mem _ hy)) b hb
theorem lines_no10 {M : Lrx9.Model} (wf : Qu.Wf M) : ∀ l ∈ Lrx9.printLines M, No10 l := by
  intro l hl
  rw [← can_lines wf] at hl
  obtain ⟨ws, hws, rfl⟩ := List.mem_map.mp hl
  exact joined_no10 (can_no10 wf ws hws)
theorem lines_small {M : Lrx9.Model} (wf : Qu.Wf M) : (Lrx9.printLines M).length ≤ 2000 ∧ ∀ l ∈ Lrx9.printLines M, l.length ≤ 147 := by
  rw [← can_lines wf]
  refine ⟨by rw [List.length_map]; exact can_len wf, fun l hl => ?_⟩
  obtain ⟨ws, hws, rfl⟩ := List.mem_map.mp hl
  exact Nat.le_trans (joined_len ws) (can_small wf ws hws).sum
theorem split_inj : ∀ {x y r t : List Nat}, No10 x → No10 y → x ++ 10 :: r = y ++ 10 :: t → x = y ∧ r = t
  | [], [], _, _, _, _, h => ⟨rfl, by injection h⟩
  | [], b :: y, _, _, _, hy, h => by
    injection h with h1 h2
    exact absurd h1.symm (hy b List.mem_cons_self).1
  | a :: x, [], _, _, hx, _, h => by
    injection h with h1 h2
    exact absurd h1 (hx a List.mem_cons_self).1
  | a :: x, b :: y, r, t, hx, hy, h => by
    injection h with h1 h2
    obtain ⟨e1, e2⟩ := split_inj (x := x) (y := y) (fun z hz => hx z (List.mem_cons_of_mem _ hz)) (fun z hz => hy z (List.mem_cons_of_mem _ hz)) h2
    exact ⟨by rw [h1, e1], e2⟩
theorem flat_inj : ∀ {a b : List (List Nat)}, (∀ l ∈ a, No10 l) → (∀ l ∈ b, No10 l) → (a.flatMap fun l => l ++ [10]) = (b.flatMap fun l => l ++ [10]) → a = b
  | [], [], _, _, _ => rfl
  | [], y :: b, _, _, h => by
    rw [List.flatMap_cons, List.append_assoc] at h
    exact absurd h.symm (by simp)
  | x :: a, [], _, _, h => by
    rw [List.flatMap_cons, List.append_assoc] at h
    exact absurd h (by simp)
  | x :: a, y :: b, ha, hb, h => by
    rw [List.flatMap_cons, List.flatMap_cons, List.append_assoc, List.append_assoc] at h
    obtain ⟨e1, e2⟩ := split_inj (ha x List.mem_cons_self) (hb y List.mem_cons_self) h
    rw [e1, flat_inj (fun l hl => ha l (List.mem_cons_of_mem _ hl)) (fun l hl => hb l (List.mem_cons_of_mem _ hl)) e2]
theorem print_inj {M M' : Lrx9.Model} (wf : Qu.Wf M) (wf' : Qu.Wf M') : (Lrx9.print M = Lrx9.print M') ↔ Lrx9.printLines M = Lrx9.printLines M' := by
  unfold Lrx9.print
  exact ⟨flat_inj (lines_no10 wf) (lines_no10 wf'), fun h => by rw [h]⟩
/-! ### words as data -/
def strD (w : List Nat) : PyData := .str (sT w)
theorem strs_dp {K : PySem.W.Frag} {H : Hp} : ∀ l : List (List Nat), DpAll K H (words l) (l.map strD)
  | [] => .nil
  | w :: l => .cons (.str _) (strs_dp l)
theorem str_ok {w : List Nat} (h : No10 w) : PyData.strOk (sT w) = true := by
  show (w.toArray).all (· < 0x110000) = true
  rw [List.all_toArray, List.all_eq_true]
  intro b hb
  have := (h b hb).2
  exact decide_eq_true (by omega)
theorem strs_shaped {l : List (List Nat)} (hl : ∀ w ∈ l, No10 w) : SeqAt.shaped (.list (l.map strD)) = true := by
  have lay : ∀ l : List (List Nat), (∀ w ∈ l, No10 w) → PyData.canLayAll0 (l.map strD) = true ∧ PyData.depthAll (l.map strD) ≤ 0 := by
    intro l
    induction l with
    | nil => exact fun _ => ⟨by simp [PyData.canLayAll0], by simp [PyData.depthAll]⟩
    | cons b r ih =>
      intro hl
      have ih := ih fun w hw => hl w (List.mem_cons_of_mem _ hw)
      refine ⟨by simp [PyData.canLayAll0, PyData.canLay0, ih.1, strD, str_ok (hl b List.mem_cons_self)], ?_⟩
      simp only [List.map_cons, PyData.depthAll, PyData.depth, strD]
      omega
  have h := lay l hl
  show (PyData.canLay0 _ && decide (PyData.depth _ ≤ 64)) = true
  rw [Bool.and_eq_true]
  refine ⟨by simp only [PyData.canLay0]; exact h.1, decide_eq_true ?_⟩
  simp only [PyData.depth]
  omega
theorem sT_beq (a b : List Nat) : (sT a == sT b) = decide (a = b) := by
  rw [Bool.eq_iff_iff, beq_iff_eq, decide_eq_true_iff]
  exact ⟨sT_inj, fun h => by rw [h]⟩
theorem strs_eq : ∀ a b : List (List Nat), PyData.eqv (.list (a.map strD)) (.list (b.map strD)) = decide (a = b) := by
  have all : ∀ a b : List (List Nat), PyData.eqvAll (a.map strD) (b.map strD) = decide (a = b) := by
    intro a
    induction a with
    | nil => intro b; cases b <;> simp [PyData.eqvAll]
    | cons x a ih =>
      intro b
      cases b with
      | nil => simp [PyData.eqvAll]
      | cons y b =>
        rw [List.map_cons, List.map_cons, PyData.eqvAll, ih b]
        show (sT x == sT y && _) = _
        rw [sT_beq, Bool.eq_iff_iff, Bool.and_eq_true, decide_eq_true_iff, decide_eq_true_iff, decide_eq_true_iff, List.cons.injEq]
  intro a b
  rw [PyData.eqv]
  exact all a b
theorem wd_not {x : List Nat} {l : List (List Nat)} : (if true = true then !inV (V.str (sT x)) (words l) else inV (V.str (sT x)) (words l)) = !l.contains x := by
  rw [if_pos rfl]
  exact congrArg (!·) (in_words _)
/-! ### a text loaded -/
theorem load_err {t : List Nat} {am : Bool} {M : Lrx9.Model} {f : Lrx9.Model → Lrx9.Result} (h : (Lrx9.isBytes t && Lrx9.isText t) = false) : Lrx9.loaded t am M f = Lrx9.error (-22) := by
  unfold Lrx9.loaded
  rw [if_pos]
  rcases Bool.and_eq_false_iff.mp h with h | h
  · exact .inl h
  · exact .inr h
theorem load_ok {t : List Nat} {am : Bool} {M : Lrx9.Model} {f : Lrx9.Model → Lrx9.Result} (h : (Lrx9.isBytes t && Lrx9.isText t) = true) : Lrx9.loaded t am M f = match Lrx9.runLines am 0 (Lrx9.linesOf t) M with
    | .error (line, fault) => Lrx9.faultResult line fault
    | .ok next => f next := by
  unfold Lrx9.loaded
  obtain ⟨h1, h2⟩ := Bool.and_eq_true_iff.mp h
  rw [if_neg]
  · rfl
  · rw [h1, h2]
    rintro (z | z) <;> exact Bool.noConfusion z
/-- what result_of wants, from what an answer wants -/
theorem give_loaded {K : PySem.W.Frag} {H H1 : Hp} {Q Q2 : VK} {E : XK} {t : List Nat} {f : Lrx9.Model → Lrx9.Result} (A : Ans K H Q E (res (Lrx9.loaded t false Lrx9.empty f))) (s : Same H H1)
    (ok : ∀ M', Ans K H Q E (res (f M')) → ∀ d' H', Same H1 H' → MdO K H' d' M' → Qu.Wf M' → Q2 (.ref d'.a) H') :
    ((Lrx9.isBytes t && Lrx9.isText t) = false → RefS K H1 E [-22]) ∧ ((Lrx9.isBytes t && Lrx9.isText t) = true → GivesR K H1 Q2 E (Lrx9.runLines (!true) 0 (Lrx9.linesOf t) Lrx9.empty)) := by
  refine ⟨fun c => ?_, fun c => ?_⟩
  · rw [load_err c] at A
    exact A.2.then s
  · rw [load_ok c] at A
    show GivesR K H1 Q2 E (Lrx9.runLines false 0 (Lrx9.linesOf t) Lrx9.empty)
    cases hr : Lrx9.runLines false 0 (Lrx9.linesOf t) Lrx9.empty with
    | error y =>
      obtain ⟨n, g⟩ := y
      rw [hr] at A
      exact A.2.then s
    | ok M' =>
      rw [hr] at A
      exact fun d' H' s' MO' nw wf' => ok M' A d' H' s' MO' wf'
/-- a fresh model -/
theorem made_same {K : PySem.W.Frag} {H H0 : Hp} {x mdx : Addr} (hx : H x = none) (hdx : H mdx = none) (ne : mdx ≠ x) (F0 : Fm (fun b => b = x) (upd (upd H mdx (.own x)) x (.ins (cModel K) mdx [])) H0) : Same H H0 := by
  have hx' : upd H mdx (.own x) x = none := by rw [upd_ne (Ne.symm ne)]; exact hx
  have s0 : Same H (upd (upd H mdx (.own x)) x (.ins (cModel K) mdx [])) := (Same.new hdx).to hx'
  exact (s0.fm.trans F0).same1 hx
end Q
set_option Elab.async false
set_option linter.all false
set_option maxRecDepth 100000
set_option maxHeartbeats 4000000
namespace Q
open PySem PySem.Spec PyProof.Rows L2
def sp_out_sum (K : PySem.W.Frag) : Sp := DeedR 2 (fun n _ => .outSum (n.getD 0 0) (n.getD 1 0)) K
theorem ok_out_sum {w : World} {K : PySem.W.Frag} {mg : Str → Option Value} {base : Heap} (T : Txt w K mg) : OKF w K mg base (L2.CX prog w) 5 d_out_sum ["desk", "numbers", "row"] (sp_out_sum K) := by
  refine okf_mk (k := 4) T 100 rfl sc_out_sum rfl rfl (fun _ _ _ _ _ _ us hl => match us, hl with | [_, _, _], _ => rfl) sp3_len (fun f cdv A outer s H vs Q E hr h => ?_)
  refine ⟨_, (pss_one (ps_ret (pe_op op_cat (pe_lst (pa_cons pe_int pa_nil)) (pe_callTy call_list_of rfl T.f_list (by decide +kernel) (pa_cons (pe_ok (ok_sum_of T) (hr.mono (by decide)) rfl T.g_sum_of pass0 (pa_cons (pe_fld (pv 0) rfl) (pa_cons (pe_ok (ok_asked_place T) (hr.mono (by decide)) rfl T.g_asked_place (L2.passes_call (L2.takes_of rfl rfl rfl rfl) fun _ _ _ _ h => h) (pa_cons (pe_fld (pv 0) rfl) (pa_cons (pv 1) pa_nil))) pa_nil))) pa_nil))))), ?_⟩
  obtain ⟨_, _, _, rfl, dk, dx, d, M, nums, row, rfl, Nv, hn, Rv, hz, D, A⟩ := h
  obtain ⟨i, r, rfl⟩ : ∃ i r, nums = [i, r] := len_two hn
  have A := show Ans K H Q E (res (if Lrx9.isPlace M i r = false then Lrx9.error (-2) else Lrx9.fractionResult (Lrx9.outSum M i r))) from A
  refine ⟨by show 1 ≤ sizeLine; decide, fun p hp => ?_⟩
  have s1 : Same H (upd H p (.lst [.int 0])) := Same.new hp
  have f1 : (upd H p (.lst [V.int 0])) p = some (.lst [.int 0]) := upd_same
  generalize upd H p (.lst [V.int 0]) = H1 at *
  refine ⟨_, rfl, _, _, _, _, _, rfl, (D.same s1).ob, T.c_Desk, T.n_Desk_model, rfl, _, rfl, _, _, _, _, _, rfl, (D.same s1).ob, T.c_Desk, T.n_Desk_model, rfl, _, rfl, _, _, rfl, d, M, i, r, rfl, Nv.same s1, D.mo.same s1, fun c pl H2 s2 np e2 => ?_, fun c => ?_⟩
  · rw [if_neg (by rw [c]; exact Bool.noConfusion)] at A
    have s02 := s1.trans s2
    obtain ⟨h1, h2, -, -⟩ := place_in c
    refine ⟨_, _, rfl, d, M, pl, i, r, rfl, rfl, e2, h1, h2, D.mo.same s02, D.wf, fun v H3 s3 fv => ?_⟩
    obtain ⟨fa, rfl, hf⟩ := fv
    have s03 := s02.trans s3
    refine ⟨_, _, rfl, .inr hf, fun l hl => ⟨p, l, _, _, rfl, rfl, Same.new hl _ _ (s3 _ _ (s2 _ _ f1)), upd_same, by show 3 ≤ sizeLine; decide, fun b hb => ?_⟩⟩
    exact A.1 b _ ((s03.to hl).to hb) ((s03.to hl).no b hb) upd_same
  · rw [if_pos c] at A
    exact A.2.then s1
def prI (p : Lrx9.Problem) : List Int := Lrx9.toInts [p.kind, p.station, p.class_]
theorem probs_small {M : Lrx9.Model} (wf : Qu.Wf M) : (Lrx9.problems M).length ≤ 200 := by
  rw [Qu.problems_eq, List.length_append]
  have l1 := Qu.flat_le (f := Qu.placesPs M) (n := 12) (l := List.range M.stations.length) fun j _ => Qu.placesPs_len wf j
  have l2 := Qu.flat_le (f := Qu.classPs M) (n := 2) (l := List.range M.classes.length) fun k _ => Qu.classPs_len M k
  rw [List.length_range] at l1 l2
  have := wf.nst
  have := wf.ncl
  omega
theorem flat_takeP {f : Lrx9.Problem → List Int} {ts : List Lrx9.Problem} {i : Nat} {t : Lrx9.Problem} (h : ts[i]? = some t) : (ts.take (i + 1)).flatMap f = (ts.take i).flatMap f ++ f t := by
  rw [take_next h, List.flatMap_append]
  simp
theorem flat_lenP {f : Lrx9.Problem → List Int} {n : Nat} : ∀ {ts : List Lrx9.Problem}, (∀ t ∈ ts, (f t).length ≤ n) → (ts.flatMap f).length ≤ n * ts.length
  | [], _ => by simp
  | t :: ts, h => by
    have h1 := h t List.mem_cons_self
    have h2 := flat_lenP (f := f) (n := n) (ts := ts) fun t m => h t (List.mem_cons_of_mem _ m)
    rw [List.flatMap_cons, List.length_append, List.length_cons, Nat.mul_succ]
    omega
def sp_problems (K : PySem.W.Frag) : Sp := DeedR 0 (fun _ _ => .problems) K
theorem ok_problems {w : World} {K : PySem.W.Frag} {mg : Str → Option Value} {base : Heap} (T : Txt w K mg) : OKF w K mg base (L2.CX prog w) 7 d_problems ["desk", "numbers", "row"] (sp_problems K) := by
  refine okf_mk (k := 6) T 102 rfl sc_problems rfl rfl (fun _ _ _ _ _ _ us hl => match us, hl with | [_, _, _], _ => rfl) sp3_len (fun f cdv A outer s H vs Q E hr h => ?_)
  refine ⟨_, (pss_cons (ps_set (i := 3) sc_problems.nd rfl (Or.inl rfl) (pe_ok (ok_problems_of T) (hr.mono (by decide)) rfl T.g_problems_of pass0 (pa_cons (pe_fld (pv 0) rfl) pa_nil)))
      (pss_cons (ps_set (i := 4) sc_problems.nd rfl (Or.inl rfl) (pe_lst (pa_cons (pe_callB call_len_seq rfl T.f_len boot_len (pa_cons (pv 3) pa_nil)) pa_nil)))
      (pss_cons (ps_for (L2.passes_of rfl) rfl (pi_list (pv 3)) (pg_name (i := 5) sc_problems.nd rfl (Or.inl rfl))
      (pss_one (ps_expr (pe_bm PySem.F.plainAttrs_list PySem.F.slot_list_extend PySem.F.type_list_extend mt_extend (pv 4) (pa_cons (pe_callTy call_list_of rfl T.f_list (by decide +kernel) (pa_cons (pv 5) pa_nil)) pa_nil)))))
      (pss_one (ps_ret (pv 4)))))), ?_⟩
  obtain ⟨a0, a1, a2, rfl, dk, dx, d, M, nums, row, rfl, Nv, hn, Rv, hz, D, A⟩ := h
  have A := show Ans K H Q E (((Lrx9.problems M).length : Int) :: (Lrx9.problems M).flatMap prI) from A
  have small := probs_small D.wf
  have big : (100000 : Nat) ≤ sizeLine := by decide
  refine ⟨_, rfl, _, _, _, _, _, rfl, D.ob, T.c_Desk, T.n_Desk_model, rfl, _, rfl, d, M, rfl, D.mo, D.wf, fun q H1 s1 nq P1 => ?_⟩
  generalize Lrx9.problems M = ps at *
  obtain ⟨vs, e1, pv⟩ := id P1
  have lp := paired_len pv
  refine ⟨_, rfl, _, _, rfl, .inl (SqL.of e1), by show 1 ≤ sizeLine; decide, fun p hp => ?_⟩
  have s3 : Same H1 (upd H1 p (.lst [.int (vs.length : Nat)])) := Same.new hp
  have f3 : (upd H1 p (.lst [V.int (vs.length : Nat)])) p = some (.lst (vI ((ps.length : Int) :: (ps.take 0).flatMap prI))) := by
    rw [upd_same, lp]
    rfl
  generalize upd H1 p (.lst [V.int (vs.length : Nat)]) = H3 at *
  refine ⟨_, rfl, q, rfl, ⟨vs, SqL.of (s3 _ _ e1)⟩, for_it (walk_list (K := K) (a := q) (xs := vs)) (fun i σ H' => ∃ v5, σ = [some (.ref dk), some a1, some a2, some (.ref q), some (.ref p), v5] ∧ Same H1 H' ∧ H' p = some (.lst (vI ((ps.length : Int) :: (ps.take i).flatMap prI)))) ⟨none, rfl, s3, f3⟩ ?_ ?_ ?_⟩
  · rintro i σ H' hi ⟨v5, -, s4, -⟩
    exact SqL.of (s4 _ _ e1)
  · rintro i x σ Hy H4 hi ⟨v5, rfl, s4, e4⟩ ⟨e5, hx⟩
    subst e5
    obtain ⟨t, hti, a, rfl, ha⟩ := paired_get pv hx
    have f1 := flat_lenP (f := prI) (n := 3) (ts := ps.take i) fun t m => Nat.le_refl 3
    have f2 : (ps.take i).length ≤ 200 := by
      rw [List.length_take]
      omega
    refine ⟨_, rfl, .inl ⟨rfl, _, .inl (.inl e4)⟩, _, rfl, _, _, rfl, .inr (SqT.of (s4 _ _ ha)), fun l hl => ⟨p, l, _, _, rfl, rfl, Same.new hl _ _ e4, upd_same, ?_, _, rfl, (s4.to hl).put hp, ?_⟩⟩
    · rw [vI_len, vN_len, List.length_cons]
      show _ + 3 ≤ _
      omega
    · rw [upd_same, flat_takeP hti, ← List.cons_append, vI_app]
      unfold prI
      rw [vI_vN]
  · rintro σ H4 ⟨v5, rfl, s4, e4⟩
    rw [lp, List.take_length] at e4
    exact ⟨_, rfl, A.1 p H4 (s1.trans s4) (s1.no p hp) e4⟩
/-! ### the canonical form as a text -/
def addNl (v : V) : V := match v with
  | .str s => .str (s ++ sT [10])
  | v => v
theorem nl_s : ("\n" : Str) = sT [10] := by decide +kernel
theorem nothing_s : ("" : Str) = sT [] := by decide +kernel
theorem join_none : ∀ ws : List (List Nat), Str.join (sT []) (ws.map sT) = sT ws.flatten
  | [] => rfl
  | [w] => by
    rw [List.flatten_cons, List.flatten_nil, List.append_nil]
    rfl
  | w :: x :: r => by
    show sT w ++ sT [] ++ Str.join (sT []) ((x :: r).map sT) = _
    rw [join_none (x :: r), sT_app, sT_app, List.append_nil]
    rfl
theorem nl_map (l : List (List Nat)) : (words l).map addNl = words (l.map fun w => w ++ [10]) := by
  unfold words
  rw [List.map_map, List.map_map]
  exact List.map_congr_left fun w _ => congrArg V.str (sT_app w [10])
theorem res_listR (l : List Nat) : vI (res (Lrx9.listResult l)) = vN (l.length :: l) := res_list l
def sp_print_model (K : PySem.W.Frag) : Sp := DeedR 0 (fun _ _ => .print) K
theorem ok_print_model {w : World} {K : PySem.W.Frag} {mg : Str → Option Value} {base : Heap} (T : Txt w K mg) : OKF w K mg base (L2.CX prog w) 4 d_print_model ["desk", "numbers", "row"] (sp_print_model K) := by
  refine okf_mk (k := 3) T 86 rfl sc_print_model rfl rfl (fun _ _ _ _ _ _ us hl => match us, hl with | [_, _, _], _ => rfl) sp3_len (fun f cdv A outer s H vs Q E hr h => ?_)
  refine ⟨_, (pss_one (ps_ret (pe_ok (ok_coded T) (hr.mono (by decide)) rfl T.g_coded pass0 (pa_cons (pe_join pe_str (pe_lc (te := tOp (fun x y H Q => ∃ i j, x = V.str i ∧ y = V.str j ∧ i.length + j.length ≤ sizeLine ∧ Q (.str (i ++ j)) H) (tVar 3) (tC (.str "\n"))) (own := [("line", 3)]) (g := gName 3) (tt := tYes) rfl sc_print_model.nd (pi_list (pe_ok (ok_canonical_lines T) (hr.mono (by decide)) rfl T.g_canonical_lines pass0 (pa_cons (pe_fld (pv 0) rfl) pa_nil))) (blkOk_by (N := N_print_model) (sc := defScope s_print_model) (by decide +kernel)) (fun _ _ _ _ _ => (pg_name (i := 3) sc_print_model.nd rfl (Or.inl rfl))) (fun _ _ _ _ _ => pts_nil) (fun _ _ _ _ _ => (pe_op op_add_str (pv 3) pe_str)))) pa_nil)))), ?_⟩
  obtain ⟨a0, a1, a2, rfl, dk, dx, d, M, nums, row, rfl, Nv, hn, Rv, hz, D, A⟩ := h
  have A := show Ans K H Q E (res (Lrx9.listResult (Lrx9.print M))) from A
  have sm := lines_small D.wf
  have big : (1000000 : Nat) ≤ sizeLine := by decide
  refine ⟨⟨_, rfl⟩, _, rfl, _, _, _, _, _, rfl, D.ob, T.c_Desk, T.n_Desk_model, rfl, _, rfl, d, M, rfl, D.mo, D.wf, fun q H1 s1 nq e1 => ⟨q, rfl, ⟨_, SqL.of e1⟩, fun D2 hD => ?_⟩⟩
  refine lc_map (xs := words (Lrx9.printLines M)) addNl hD (SqL.of e1) (by rw [words_len]; omega) (fun _ => rfl) ?_ ?_
  · intro x H' Q' hx s q
    obtain ⟨n, hn, rfl⟩ : ∃ n ∈ Lrx9.printLines M, V.str (sT n) = x := List.mem_map.mp hx
    refine ⟨_, rfl, _, _, rfl, rfl, ?_, ?_⟩
    · rw [nl_s, sT_len, sT_len]
      have := sm.2 n hn
      simp only [List.length_singleton]
      omega
    · rw [nl_s]
      exact q H' (Same.refl _)
  · intro H2 s2 eD
    rw [nl_map] at eD
    have s02 := s1.trans s2
    have fl : ((Lrx9.printLines M).map fun w => w ++ [10]).flatten = Lrx9.print M := List.flatMap_def.symm
    have l1 := sum_le (k := 148) (l := (Lrx9.printLines M).map fun w => w ++ [10]) fun w hw => by
      obtain ⟨n, hn, rfl⟩ := List.mem_map.mp hw
      rw [List.length_append]
      have := sm.2 n hn
      simp only [List.length_singleton]
      omega
    rw [List.length_map] at l1
    have l2 : (Lrx9.print M).length ≤ 1000000 := by
      rw [← fl, List.length_flatten]
      omega
    refine ⟨"", D2, ((Lrx9.printLines M).map fun w => w ++ [10]).map sT, rfl, rfl, .inl (SqL.of ?_), ?_, _, rfl, Lrx9.print M, ?_, l2, fun b H3 s3 nb eb => ?_⟩
    · rw [← words_str]
      exact eD
    · rw [sT_lens, show ("" : Str).length = 0 from rfl]
      omega
    · rw [nothing_s, TL.join_eq, join_none, fl]
    · refine A.1 b H3 (s02.trans s3) (s02.no b nb) ?_
      rw [res_listR]
      exact eb
def sp_print_line (K : PySem.W.Frag) : Sp := DeedR 1 (fun n _ => .printLine (n.getD 0 0)) K
theorem ok_print_line {w : World} {K : PySem.W.Frag} {mg : Str → Option Value} {base : Heap} (T : Txt w K mg) : OKF w K mg base (L2.CX prog w) 4 d_print_line ["desk", "numbers", "row"] (sp_print_line K) := by
  refine okf_mk (k := 3) T 87 rfl sc_print_line rfl rfl (fun _ _ _ _ _ _ us hl => match us, hl with | [_, _, _], _ => rfl) sp3_len (fun f cdv A outer s H vs Q E hr h => ?_)
  refine ⟨_, (pss_cons (ps_set (i := 3) sc_print_line.nd rfl (Or.inl rfl) (pe_ok (ok_canonical_lines T) (hr.mono (by decide)) rfl T.g_canonical_lines pass0 (pa_cons (pe_fld (pv 0) rfl) pa_nil)))
      (pss_cons (ps_expr (pe_ok (ok_ask T) (hr.mono (by decide)) rfl T.g_ask (L2.passes_call (L2.takes_of rfl rfl rfl rfl) fun _ _ _ _ h => h) (pa_cons (pe_cmpR op_lt (pe_ix ix_list (pv 1) pe_int (fun _ _ => rfl)) (pe_callB call_len_seq rfl T.f_len boot_len (pa_cons (pv 3) pa_nil)) (nomark _)) (pa_cons (pe_gint rfl (T.int_NOT_THERE)) pa_nil))))
      (pss_one (ps_ret (pe_ok (ok_coded T) (hr.mono (by decide)) rfl T.g_coded pass0 (pa_cons (pe_ix ix_list (pv 3) (pe_ix ix_list (pv 1) pe_int (fun _ _ => rfl)) (fun _ _ => rfl)) pa_nil)))))), ?_⟩
  obtain ⟨a0, a1, a2, rfl, dk, dx, d, M, nums, row, rfl, Nv, hn, Rv, hz, D, A⟩ := h
  obtain ⟨na, rfl, nS⟩ := id Nv
  obtain ⟨i, rfl⟩ : ∃ i, nums = [i] := List.length_eq_one_iff.mp hn
  have A := show Ans K H Q E (res (match (Lrx9.printLines M)[i]? with | none => Lrx9.error (-2) | some line => Lrx9.listResult line)) from A
  have sm := lines_small D.wf
  refine ⟨_, rfl, _, _, _, _, _, rfl, D.ob, T.c_Desk, T.n_Desk_model, rfl, _, rfl, d, M, rfl, D.mo, D.wf, fun q H1 s1 nq e1 => ?_⟩
  refine ⟨_, rfl, _, _, _, _, rfl, rfl, s1.seq nS, at0, _, rfl, _, _, rfl, .inl (SqL.of e1), _, _, rfl, rfl, ?_⟩
  refine ⟨_, _, rfl, _, -2, rfl, rfl, fun c => ?_, fun c => ?_⟩
  · have hi := of_decide_eq_true c
    rw [words_len] at hi
    have hi : i < (Lrx9.printLines M).length := by omega
    have e := List.getElem?_eq_getElem hi
    rw [e] at A
    refine ⟨_, rfl, _, rfl, _, _, _, _, rfl, rfl, s1.seq nS, at0, _, _, _, _, rfl, rfl, SqL.of e1, words_at e, _, rfl, _, rfl, ?_, fun b H' s n eb => A.1 b H' (s1.trans s) (s1.no b n) ?_⟩
    · have := sm.2 _ (List.getElem_mem hi)
      omega
    · rw [eb, res_list]
  · have hi := of_decide_eq_false c
    rw [words_len] at hi
    have e : (Lrx9.printLines M)[i]? = none := List.getElem?_eq_none (by omega)
    rw [e] at A
    exact A.2.then s1
end Q
set_option Elab.async false
set_option linter.all false
set_option maxRecDepth 100000
set_option maxHeartbeats 4000000
namespace Q
open PySem PySem.Spec PyProof.Rows L2
/-! ### lines that are lacking -/
theorem miss_next (l m : List (List Nat)) {i : Nat} {y : List Nat} (h : l[i]? = some y) : ((List.range (i + 1)).filter fun k => !m.contains (l.getD k [])) = ((List.range i).filter fun k => !m.contains (l.getD k [])) ++ (if (!m.contains y) = true then [i] else []) := by
  have e : l.getD i [] = y := by rw [List.getD_eq_getElem?_getD, h]; rfl
  rw [List.range_succ, List.filter_append, List.filter_cons, e, List.filter_nil]
def sp_lacking (K : PySem.W.Frag) : Sp := sp2 fun a b H Q _ => ∃ (p q : Addr) (l m : List (List Nat)), a = .ref p ∧ b = .ref q ∧ H p = some (.lst (words l)) ∧ H q = some (.lst (words m)) ∧ l.length ≤ 2000 ∧
  ∀ r H', Same H H' → H r = none → H' r = some (.lst (vN ((Lrx9.missing l m).length :: Lrx9.missing l m))) → Q (.ref r) H'
theorem ok_lacking {w : World} {K : PySem.W.Frag} {mg : Str → Option Value} {base : Heap} (T : Txt w K mg) : OKF w K mg base (CX0) 1 d_lacking ["lines", "others"] (sp_lacking K) := by
  refine okf_mk (k := 0) T 104 rfl sc_lacking rfl rfl (fun _ _ _ _ _ _ us hl => match us, hl with | [_, _], _ => rfl) sp2_len (fun f cdv A outer s H vs Q E hr h => ?_)
  refine ⟨_, (PSs.nox (pss_cons (ps_setLc (i := 2) (g := gTup K 2 (gCons (gName 3) (gCons (gName 4) gNil))) (tt := tTest (tOp (rIn K true) (tVar 4) (tVar 1))) (own := [("number", 3), ("line", 4)])   rfl sc_lacking.nd rfl rfl (sw_true rfl rfl rfl (by decide +kernel)) (pi_enum rfl T.f_enumerate (pa_cons (pv 0) pa_nil)) (blkOk_by (N := N_lacking) (sc := defScope s_lacking) (by decide +kernel)) (fun _ _ _ _ _ => (pg_tup rfl (pgs_cons (pg_name (i := 3) sc_lacking.nd rfl (Or.inl rfl)) (pgs_cons (pg_name (i := 4) sc_lacking.nd rfl (Or.inl rfl)) pgs_nil)))) (fun _ _ _ _ _ => (pts_one (pt_cmpR (op_notIn_seq) (pv 4) (pv 1) (by rfl)))) (fun _ _ _ _ _ => (pv 3)))
      (pss_one (ps_ret (pe_op op_cat (pe_lst (pa_cons (pe_callB call_len_seq rfl T.f_len boot_len (pa_cons (pv 2) pa_nil)) pa_nil)) (pv 2)))))), ?_⟩
  obtain ⟨_, _, rfl, p, q, l, m, rfl, rfl, hp, hq, hl, hQ⟩ := h
  have big : (100000 : Nat) ≤ sizeLine := by decide
  have ml : ∀ i, ((List.range i).filter fun k => !m.contains (l.getD k [])).length ≤ i := fun i => by
    have := List.length_filter_le (fun k => !m.contains (l.getD k [])) (List.range i)
    rw [List.length_range] at this
    exact this
  unfold Lrx9.missing at hQ
  refine ⟨_, rfl, p, words l, rfl, SqL.of hp, fun D hD => ?_⟩
  refine lc_it (walk_enum (K := K) (a := p) (xs := words l)) (fun i H' => Same H H' ∧ H' D = some (.lst (vN ((List.range i).filter fun k => !m.contains (l.getD k []))))) ⟨Same.new hD, upd_same⟩ (fun i H' _ ⟨s, _⟩ => SqL.of (s _ _ hp)) ?_ ?_
  · rintro i x H1 H2 hi ⟨s1, e1⟩ ⟨Tp, n, y, rfl, hT, rfl, en, hy⟩
    have s2 : Same H1 (upd H1 Tp (.tup [n, y])) := Same.new hT
    have hn : n = .int (i : Int) := (Option.some.inj en).symm
    subst hn
    obtain ⟨w1, hw1, rfl⟩ : ∃ w1, l[i]? = some w1 ∧ y = V.str (sT w1) := by
      have hy : (l.map fun w => V.str (sT w))[i]? = some y := hy
      rw [List.getElem?_map] at hy
      obtain ⟨b, hb, e⟩ := Option.map_eq_some_iff.mp hy
      exact ⟨b, hb, e.symm⟩
    refine ⟨Tp, _, rfl, SqT.of upd_same, rfl, _, _, rfl, _, _, rfl, rfl, rfl, ?_⟩
    generalize upd H1 Tp (.tup [.int (i : Int), V.str (sT w1)]) = H3 at *
    have s03 := s1.trans s2
    refine ⟨_, rfl, _, rfl, _, _, rfl, .inl (SqL.of (s03 _ _ hq)), rfl, flat_words _, _, rfl, ?_⟩
    rw [show (if true = true then !inV (V.str (sT w1)) (words m) else inV (V.str (sT w1)) (words m)) = !m.contains w1 from wd_not]
    rw [miss_next l m hw1]
    refine ite2 (fun c => ?_) (fun c => ?_)
    · refine ⟨_, rfl, _, s2 _ _ e1, ?_, s03.put hD, ?_⟩
      · have := ml i
        rw [words_len] at hi
        rw [vN_len]
        omega
      · rw [upd_same, if_pos c]
        unfold vN
        rw [List.map_append]
        rfl
    · rw [if_neg c, List.append_nil]
      exact ⟨s03, s2 _ _ e1⟩
  · rintro H1 ⟨s1, e1⟩
    rw [words_len] at e1
    have ml := ml l.length
    generalize (List.range l.length).filter (fun k => !m.contains (l.getD k [])) = ms at *
    refine ⟨_, rfl, _, _, rfl, .inl (SqL.of e1), by show 1 ≤ sizeLine; decide, fun a ha => ?_⟩
    refine ⟨_, rfl, a, D, _, _, rfl, rfl, upd_same, Same.new ha _ _ e1, ?_, fun b hb => ?_⟩
    · rw [vN_len]
      show 1 + _ ≤ _
      omega
    · refine hQ b _ ((s1.to ha).to hb) ((s1.to ha).no b hb) ?_
      rw [upd_same, vN_len]
      rfl
/-! ### a text's model beside the own -/
def sp_is_equal (K : PySem.W.Frag) : Sp := DeedR 0 (fun _ t => .isEqual t) K
theorem ok_is_equal {w : World} {K : PySem.W.Frag} {mg : Str → Option Value} {base : Heap} (T : Txt w K mg) : OKF w K mg base (L2.CX prog w) 14 d_is_equal ["desk", "numbers", "row"] (sp_is_equal K) := by
  refine okf_mk (k := 13) T 103 rfl sc_is_equal rfl rfl (fun _ _ _ _ _ _ us hl => match us, hl with | [_, _, _], _ => rfl) sp3_len (fun f cdv A outer s H vs Q E hr h => ?_)
  have hu := hu_of hr
  have hu64 := hr.units
  refine ⟨_, (pss_one (ps_ret (pe_lst (pa_cons (pe_callTy call_int1 rfl T.f_int (by decide +kernel) (pa_cons (pe_cmpR (op_eqD hu64) (pe_ok (ok_canonical_lines T) (hr.mono (by decide)) rfl T.g_canonical_lines pass0 (pa_cons (pe_ok (ok_result_of T) (hr.mono (by decide)) rfl T.g_result_of (L2.passes_call (L2.takes_of rfl rfl rfl rfl) fun _ _ _ _ h => h) (pa_cons (pe_mk0 (ok_Model_init T) T.k_Model (hr.mono (by decide)) rfl T.g_Model pass0) (pa_cons (pv 2) (pa_cons pe_bl pa_nil)))) pa_nil)) (pe_ok (ok_canonical_lines T) (hr.mono (by decide)) rfl T.g_canonical_lines pass0 (pa_cons (pe_fld (pv 0) rfl) pa_nil)) (nomark _)) pa_nil)) pa_nil)))), ?_⟩
  obtain ⟨a0, a1, a2, rfl, dk, dx, d, M, nums, row, rfl, Nv, hn, Rv, hz, D, A⟩ := h
  have A := show Ans K H Q E (res (Lrx9.loaded row false Lrx9.empty fun other => Lrx9.number (if Lrx9.print other = Lrx9.print M then 1 else 0))) from A
  refine fun x mdx hx hdx ne => ⟨_, rfl, x, mdx, rfl, upd_same, fun d0 H0 ea ed F0 MO0 nw => ⟨rfl, ?_⟩⟩
  have s1 := made_same hx hdx ne F0
  subst ea
  obtain ⟨g1, g2⟩ := give_loaded A s1 (Q2 := fun v H' => ∀ M', Ans K H Q E (res (Lrx9.number (if Lrx9.print M' = Lrx9.print M then 1 else 0))) → True) fun M' _ _ _ _ _ _ => fun _ _ => trivial
  clear g2
  refine ⟨_, rfl, _, _, _, rfl, d0, Lrx9.empty, row, true, rfl, Rv.same s1, rfl, hz, MO0, Qu.wf_empty, g1, (give_loaded A s1 fun M' A2 d' H2 s2 MO2 wf2 => ?_).2⟩
  have s02 := s1.trans s2
  refine ⟨_, rfl, d', M', rfl, MO2, wf2, fun q H3 s3 nq e3 => ?_⟩
  have s03 := s02.trans s3
  refine ⟨_, rfl, _, _, _, _, _, rfl, (D.same s03).ob, T.c_Desk, T.n_Desk_model, rfl, _, rfl, d, M, rfl, (D.same s03).mo, D.wf, fun q2 H4 s4 n4 e4 => ?_⟩
  refine ⟨_, _, .lst (SqL.of (s4 _ _ e3)) (strs_dp _), .lst (SqL.of e4) (strs_dp _), strs_shaped (lines_no10 wf2), strs_shaped (lines_no10 D.wf), .inr ⟨_, rfl, by show 1 ≤ sizeLine; decide, fun b hb => ?_⟩⟩
  have s04 := s03.trans s4
  refine A2.1 b _ (s04.to hb) (s04.no b hb) ?_
  rw [upd_same, strs_eq]
  have e : (Lrx9.printLines M' = Lrx9.printLines M) ↔ (Lrx9.print M' = Lrx9.print M) := (print_inj wf2 D.wf).symm
  by_cases c : Lrx9.printLines M' = Lrx9.printLines M
  · rw [decide_eq_true c, if_pos (e.mp c)]
    rfl
  · rw [decide_eq_false c, if_neg fun z => c (e.mpr z)]
    rfl
theorem miss_len (l m : List (List Nat)) : (Lrx9.missing l m).length ≤ l.length := by
  unfold Lrx9.missing
  have := List.length_filter_le (fun k => !m.contains (l.getD k [])) (List.range l.length)
  rw [List.length_range] at this
  exact this
def sp_difference (K : PySem.W.Frag) : Sp := DeedR 0 (fun _ t => .difference t) K
theorem ok_difference {w : World} {K : PySem.W.Frag} {mg : Str → Option Value} {base : Heap} (T : Txt w K mg) : OKF w K mg base (L2.CX prog w) 14 d_difference ["desk", "numbers", "row"] (sp_difference K) := by
  refine okf_mk (k := 13) T 105 rfl sc_difference rfl rfl (fun _ _ _ _ _ _ us hl => match us, hl with | [_, _, _], _ => rfl) sp3_len (fun f cdv A outer s H vs Q E hr h => ?_)
  refine ⟨_, (pss_cons (ps_par (i := 3) (j := 4) rfl sc_difference.nd rfl rfl (by decide) rfl rfl (pa_cons (pe_ok (ok_canonical_lines T) (hr.mono (by decide)) rfl T.g_canonical_lines pass0 (pa_cons (pe_ok (ok_result_of T) (hr.mono (by decide)) rfl T.g_result_of (L2.passes_call (L2.takes_of rfl rfl rfl rfl) fun _ _ _ _ h => h) (pa_cons (pe_mk0 (ok_Model_init T) T.k_Model (hr.mono (by decide)) rfl T.g_Model pass0) (pa_cons (pv 2) (pa_cons pe_bl pa_nil)))) pa_nil)) (pa_cons (pe_ok (ok_canonical_lines T) (hr.mono (by decide)) rfl T.g_canonical_lines pass0 (pa_cons (pe_fld (pv 0) rfl) pa_nil)) pa_nil)) (by rfl))
      (pss_one (ps_ret (pe_op op_cat (pe_ok (ok_lacking T) (hr.mono (by decide)) rfl T.g_lacking pass0 (pa_cons (pv 4) (pa_cons (pv 3) pa_nil))) (pe_ok (ok_lacking T) (hr.mono (by decide)) rfl T.g_lacking pass0 (pa_cons (pv 3) (pa_cons (pv 4) pa_nil))))))), ?_⟩
  obtain ⟨a0, a1, a2, rfl, dk, dx, d, M, nums, row, rfl, Nv, hn, Rv, hz, D, A⟩ := h
  have big : (100000 : Nat) ≤ sizeLine := by decide
  have A := show Ans K H Q E (res (Lrx9.loaded row false Lrx9.empty fun other => ⟨((Lrx9.missing (Lrx9.printLines M) (Lrx9.printLines other)).length : Int), Lrx9.toInts (Lrx9.missing (Lrx9.printLines M) (Lrx9.printLines other) ++ [(Lrx9.missing (Lrx9.printLines other) (Lrx9.printLines M)).length] ++ Lrx9.missing (Lrx9.printLines other) (Lrx9.printLines M))⟩)) from A
  refine fun x mdx hx hdx ne => ⟨_, rfl, x, mdx, rfl, upd_same, fun d0 H0 ea ed F0 MO0 nw => ⟨rfl, ?_⟩⟩
  have s1 := made_same hx hdx ne F0
  subst ea
  have g := give_loaded A s1 (Q2 := fun _ _ => True) fun _ _ _ _ _ _ _ => trivial
  refine ⟨_, rfl, _, _, _, rfl, d0, Lrx9.empty, row, true, rfl, Rv.same s1, rfl, hz, MO0, Qu.wf_empty, g.1, (give_loaded A s1 fun M' A2 d' H2 s2 MO2 wf2 => ?_).2⟩
  have s02 := s1.trans s2
  refine ⟨_, rfl, d', M', rfl, MO2, wf2, fun q H3 s3 nq e3 => ?_⟩
  have s03 := s02.trans s3
  refine ⟨_, rfl, _, _, _, _, _, rfl, (D.same s03).ob, T.c_Desk, T.n_Desk_model, rfl, _, rfl, d, M, rfl, (D.same s03).mo, D.wf, fun q2 H4 s4 n4 e4 => ?_⟩
  have s04 := s03.trans s4
  have sm1 := (lines_small wf2).1
  have sm2 := (lines_small D.wf).1
  refine ⟨_, _, rfl, ?_⟩
  refine ⟨_, rfl, _, rfl, _, _, rfl, q2, q, _, _, rfl, rfl, e4, s4 _ _ e3, sm2, fun r1 H5 s5 n5 e5 => ?_⟩
  refine ⟨_, rfl, _, rfl, _, _, rfl, q, q2, _, _, rfl, rfl, s5 _ _ (s4 _ _ e3), s5 _ _ e4, sm1, fun r2 H6 s6 n6 e6 => ?_⟩
  have l1 := miss_len (Lrx9.printLines M) (Lrx9.printLines M')
  have l2 := miss_len (Lrx9.printLines M') (Lrx9.printLines M)
  refine ⟨r1, r2, _, _, rfl, rfl, s6 _ _ e5, e6, ?_, fun b hb => ?_⟩
  · rw [vN_len, vN_len, List.length_cons, List.length_cons]
    omega
  · have s06 := (s04.trans s5).trans s6
    refine A2.1 b _ (s06.to hb) (s06.no b hb) ?_
    rw [upd_same]
    generalize Lrx9.missing (Lrx9.printLines M) (Lrx9.printLines M') = m1 at *
    generalize Lrx9.missing (Lrx9.printLines M') (Lrx9.printLines M) = m2 at *
    show some (HO.lst (vN (m1.length :: m1) ++ vN (m2.length :: m2))) = some (HO.lst (V.int (m1.length : Int) :: vI (Lrx9.toInts (m1 ++ [m2.length] ++ m2))))
    rw [vI_vN]
    unfold vN
    rw [List.map_append, List.map_append, List.append_assoc]
    rfl
def sp_check (K : PySem.W.Frag) : Sp := DeedR 0 (fun _ t => .check t) K
theorem ok_check {w : World} {K : PySem.W.Frag} {mg : Str → Option Value} {base : Heap} (T : Txt w K mg) : OKF w K mg base (L2.CX prog w) 14 d_check ["desk", "numbers", "row"] (sp_check K) := by
  refine okf_mk (k := 13) T 106 rfl sc_check rfl rfl (fun _ _ _ _ _ _ us hl => match us, hl with | [_, _, _], _ => rfl) sp3_len (fun f cdv A outer s H vs Q E hr h => ?_)
  refine ⟨_, (pss_one (ps_ret (pe_lst (pa_cons (pe_callB call_len_seq rfl T.f_len boot_len (pa_cons (pe_ok (ok_problems_of T) (hr.mono (by decide)) rfl T.g_problems_of pass0 (pa_cons (pe_ok (ok_result_of T) (hr.mono (by decide)) rfl T.g_result_of (L2.passes_call (L2.takes_of rfl rfl rfl rfl) fun _ _ _ _ h => h) (pa_cons (pe_mk0 (ok_Model_init T) T.k_Model (hr.mono (by decide)) rfl T.g_Model pass0) (pa_cons (pv 2) (pa_cons pe_bl pa_nil)))) pa_nil)) pa_nil)) pa_nil)))), ?_⟩
  obtain ⟨a0, a1, a2, rfl, dk, dx, d, M, nums, row, rfl, Nv, hn, Rv, hz, D, A⟩ := h
  have A := show Ans K H Q E (res (Lrx9.loaded row false Lrx9.empty fun other => Lrx9.number (Lrx9.problems other).length)) from A
  refine fun x mdx hx hdx ne => ⟨_, rfl, x, mdx, rfl, upd_same, fun d0 H0 ea ed F0 MO0 nw => ⟨rfl, ?_⟩⟩
  have s1 := made_same hx hdx ne F0
  subst ea
  have g := give_loaded A s1 (Q2 := fun _ _ => True) fun _ _ _ _ _ _ _ => trivial
  refine ⟨_, rfl, _, _, _, rfl, d0, Lrx9.empty, row, true, rfl, Rv.same s1, rfl, hz, MO0, Qu.wf_empty, g.1, (give_loaded A s1 fun M' A2 d' H2 s2 MO2 wf2 => ?_).2⟩
  have s02 := s1.trans s2
  refine ⟨_, rfl, d', M', rfl, MO2, wf2, fun q H3 s3 nq P3 => ?_⟩
  obtain ⟨vs, e3, pv⟩ := id P3
  have s03 := s02.trans s3
  refine ⟨_, _, rfl, .inl (SqL.of e3), by show 1 ≤ sizeLine; decide, fun b hb => ?_⟩
  refine A2.1 b _ (s03.to hb) (s03.no b hb) ?_
  rw [upd_same, paired_len pv]
  rfl
/-! ### the model of the desk changes -/
def GivesL (K : PySem.W.Frag) (dk dx : Addr) (H : Hp) (Q : VK) (E : XK) (t : List Nat) (r : Except (Nat × Lrx9.Fault) Lrx9.Model) : Prop :=
  ((Lrx9.isBytes t && Lrx9.isText t) = false → RefS K H E [-22]) ∧ ((Lrx9.isBytes t && Lrx9.isText t) = true → match r with
    | .error (n, f) => RefS K H E [-20, (n : Int), (f.column : Int), (f.kind : Int)]
    | .ok M' => AnsW K dk dx H Q (some M') [((Lrx9.printLines M').length : Int)])
def sp_load (K : PySem.W.Frag) : Sp := sp3 fun a _b c H Q E => ∃ (dk dx : Addr) (v : V) (row : List Nat), a = .ref dk ∧ H dk = some (.ins (cDesk K) dx [("model", v)]) ∧ RowV K H c row ∧ row.length ≤ 1000 ∧
  GivesL K dk dx H Q E row (Lrx9.runLines false 0 (Lrx9.linesOf row) Lrx9.empty)
/-- the result is put, its lines are counted -/
theorem give_put {K : PySem.W.Frag} {dk dx : Addr} {H H1 : Hp} {Q Q2 : VK} {E : XK} {t : List Nat} {once : Bool} {M : Lrx9.Model} (A : GivesL K dk dx H Q E t (Lrx9.runLines (!once) 0 (Lrx9.linesOf t) M)) (s : Same H H1)
    (ok : ∀ M', AnsW K dk dx H Q (some M') [((Lrx9.printLines M').length : Int)] → ∀ d' H', Same H1 H' → MdO K H' d' M' → Qu.Wf M' → (∀ y, H y ≠ none → y ≠ d'.cl ∧ y ≠ d'.st) → Q2 (.ref d'.a) H') :
    ((Lrx9.isBytes t && Lrx9.isText t) = false → RefS K H1 E [-22]) ∧ ((Lrx9.isBytes t && Lrx9.isText t) = true → GivesR K H1 Q2 E (Lrx9.runLines (!once) 0 (Lrx9.linesOf t) M)) := by
  refine ⟨fun c => (A.1 c).then s, fun c => ?_⟩
  have A := A.2 c
  cases hr : Lrx9.runLines (!once) 0 (Lrx9.linesOf t) M with
  | error y =>
    obtain ⟨n, g⟩ := y
    rw [hr] at A
    exact RefS.then A s
  | ok M' =>
    rw [hr] at A
    exact fun d' H' s' MO' nw wf' => ok M' A d' H' s' MO' wf' fun y hy => ⟨fun z => hy (s.no _ (by rw [z]; exact nw _ (by simp))), fun z => hy (s.no _ (by rw [z]; exact nw _ (by simp)))⟩
theorem ok_load {w : World} {K : PySem.W.Frag} {mg : Str → Option Value} {base : Heap} (T : Txt w K mg) : OKF w K mg base (L2.CX prog w) 14 d_load ["desk", "numbers", "row"] (sp_load K) := by
  refine okf_mk (k := 13) T 82 rfl sc_load rfl rfl (fun _ _ _ _ _ _ us hl => match us, hl with | [_, _, _], _ => rfl) sp3_len (fun f cdv A outer s H vs Q E hr h => ?_)
  refine ⟨_, (pss_cons (ps_fld (pv 0) (pe_ok (ok_result_of T) (hr.mono (by decide)) rfl T.g_result_of (L2.passes_call (L2.takes_of rfl rfl rfl rfl) fun _ _ _ _ h => h) (pa_cons (pe_mk0 (ok_Model_init T) T.k_Model (hr.mono (by decide)) rfl T.g_Model pass0) (pa_cons (pv 2) (pa_cons pe_bl pa_nil)))) rfl)
      (pss_one (ps_ret (pe_lst (pa_cons (pe_callB call_len_seq rfl T.f_len boot_len (pa_cons (pe_ok (ok_canonical_lines T) (hr.mono (by decide)) rfl T.g_canonical_lines pass0 (pa_cons (pe_fld (pv 0) rfl) pa_nil)) pa_nil)) pa_nil))))), ?_⟩
  obtain ⟨a0, a1, a2, rfl, dk, dx, v, row, rfl, hd, Rv, hz, A⟩ := h
  refine fun x mdx hx hdx ne => ⟨_, rfl, x, mdx, rfl, upd_same, fun d0 H0 ea ed F0 MO0 nw => ⟨rfl, ?_⟩⟩
  have s1 := made_same hx hdx ne F0
  subst ea
  have g := give_put (once := true) A s1 (Q2 := fun _ _ => True) fun _ _ _ _ _ _ _ _ => trivial
  refine ⟨_, rfl, _, _, _, rfl, d0, Lrx9.empty, row, true, rfl, Rv.same s1, rfl, hz, MO0, Qu.wf_empty, g.1, (give_put (once := true) A s1 fun M' A2 d' H2 s2 MO2 wf2 nw2 => ?_).2⟩
  have s02 := s1.trans s2
  obtain ⟨F2, D2⟩ := desk_put s02 hd MO2 wf2
  refine ⟨_, rfl, dk, _, dx, _, rfl, s02 _ _ hd, T.c_Desk, T.n_Desk_model, Nat.le_of_ble_eq_true rfl, ?_⟩
  refine ⟨_, rfl, _, _, _, _, _, rfl, D2.ob, T.c_Desk, T.n_Desk_model, rfl, _, rfl, d', M', rfl, D2.mo, wf2, fun q H3 s3 nq e3 => ?_⟩
  refine ⟨_, _, rfl, .inl (SqL.of e3), by show 1 ≤ sizeLine; decide, fun b hb => ?_⟩
  have F3 := F2.trans ((s3.to (o := .lst [.int ((words (Lrx9.printLines M')).length : Nat)]) hb).fm)
  refine A2 b _ F3 ?_ ⟨_, D2.same (s3.to hb), fun _ => nw2⟩ ?_
  · exact F2.no b (s3.no b hb)
  · rw [upd_same, words_len]
    rfl
def sp_amend (K : PySem.W.Frag) : Sp := sp3 fun a _b c H Q E => ∃ (dk dx : Addr) (d : MD) (M : Lrx9.Model) (row : List Nat), a = .ref dk ∧ DskM K H dk dx d M ∧ RowV K H c row ∧ row.length ≤ 1000 ∧
  GivesL K dk dx H Q E row (Lrx9.runLines true 0 (Lrx9.linesOf row) M)
theorem ok_amend {w : World} {K : PySem.W.Frag} {mg : Str → Option Value} {base : Heap} (T : Txt w K mg) : OKF w K mg base (L2.CX prog w) 14 d_amend ["desk", "numbers", "row"] (sp_amend K) := by
  refine okf_mk (k := 13) T 83 rfl sc_amend rfl rfl (fun _ _ _ _ _ _ us hl => match us, hl with | [_, _, _], _ => rfl) sp3_len (fun f cdv A outer s H vs Q E hr h => ?_)
  refine ⟨_, (pss_cons (ps_fld (pv 0) (pe_ok (ok_result_of T) (hr.mono (by decide)) rfl T.g_result_of (L2.passes_call (L2.takes_of rfl rfl rfl rfl) fun _ _ _ _ h => h) (pa_cons (pe_fld (pv 0) rfl) (pa_cons (pv 2) (pa_cons pe_bl pa_nil)))) rfl)
      (pss_one (ps_ret (pe_lst (pa_cons (pe_callB call_len_seq rfl T.f_len boot_len (pa_cons (pe_ok (ok_canonical_lines T) (hr.mono (by decide)) rfl T.g_canonical_lines pass0 (pa_cons (pe_fld (pv 0) rfl) pa_nil)) pa_nil)) pa_nil))))), ?_⟩
  obtain ⟨a0, a1, a2, rfl, dk, dx, d, M, row, rfl, D, Rv, hz, A⟩ := h
  have g := give_put (once := false) A (Same.refl H) (Q2 := fun _ _ => True) fun _ _ _ _ _ _ _ _ => trivial
  refine ⟨_, rfl, _, _, _, _, _, rfl, D.ob, T.c_Desk, T.n_Desk_model, rfl, _, rfl, _, _, _, rfl, d, M, row, false, rfl, Rv, rfl, hz, D.mo, D.wf, g.1, (give_put (once := false) A (Same.refl H) fun M' A2 d' H2 s02 MO2 wf2 nw2 => ?_).2⟩
  obtain ⟨F2, D2⟩ := desk_put s02 D.ob MO2 wf2
  refine ⟨_, rfl, dk, _, dx, _, rfl, s02 _ _ D.ob, T.c_Desk, T.n_Desk_model, Nat.le_of_ble_eq_true rfl, ?_⟩
  refine ⟨_, rfl, _, _, _, _, _, rfl, D2.ob, T.c_Desk, T.n_Desk_model, rfl, _, rfl, d', M', rfl, D2.mo, wf2, fun q H3 s3 nq e3 => ?_⟩
  refine ⟨_, _, rfl, .inl (SqL.of e3), by show 1 ≤ sizeLine; decide, fun b hb => ?_⟩
  have F3 := F2.trans ((s3.to (o := .lst [.int ((words (Lrx9.printLines M')).length : Nat)]) hb).fm)
  refine A2 b _ F3 ?_ ⟨_, D2.same (s3.to hb), fun _ => nw2⟩ ?_
  · exact F2.no b (s3.no b hb)
  · rw [upd_same, words_len]
    rfl
def sp_Desk_init (K : PySem.W.Frag) : Sp := sp1 fun a H Q _ => ∃ dk dx, a = .ref dk ∧ H dk = some (.ins (cDesk K) dx []) ∧ Q .non (upd H dk (.ins (cDesk K) dx [("model", .non)]))
theorem ok_Desk_init {w : World} {K : PySem.W.Frag} {mg : Str → Option Value} {base : Heap} (T : Txt w K mg) : OKF w K mg base (CX0) 1 d_Desk_init ["self"] (sp_Desk_init K) := by
  refine okf_mk (k := 0) T 74 rfl sc_Desk_init rfl rfl (fun _ _ _ _ _ _ us hl => match us, hl with | [_], _ => rfl) sp1_len (fun f cdv A outer s H vs Q E hr h => ?_)
  refine ⟨_, (PSs.nox (pss_one (ps_fld (pv 0) pe_non rfl))), ?_⟩
  obtain ⟨_, rfl, dk, dx, rfl, hd, hQ⟩ := h
  exact ⟨_, rfl, dk, _, dx, _, rfl, hd, T.c_Desk, T.n_Desk_model, Nat.le_of_ble_eq_true rfl, hQ⟩
end Q
set_option Elab.async false
set_option linter.all false
set_option maxRecDepth 100000
set_option maxHeartbeats 4000000
namespace Q
open PySem PySem.Spec PyProof.Rows L2
/-! ### the deeds by their numbers -/
def callAt (p : Nat) (n row : List Nat) : Lrx9.Call := match p with
  | 0 => .create
  | 1 => .load row
  | 2 => .amend row
  | 3 => .tokens row
  | 4 => .evaluate row
  | 5 => .print
  | 6 => .printLine (n.getD 0 0)
  | 7 => .counts
  | 8 => .station (n.getD 0 0)
  | 9 => .className (n.getD 0 0)
  | 10 => .findStation row
  | 11 => .findClass row
  | 12 => .constant row
  | 13 => .service (n.getD 0 0) (n.getD 1 0)
  | 14 => .arrival (n.getD 0 0) (n.getD 1 0)
  | 15 => .route (n.getD 0 0) (n.getD 1 0) (n.getD 2 0) (n.getD 3 0)
  | 16 => .leaving (n.getD 0 0) (n.getD 1 0)
  | 17 => .outSum (n.getD 0 0) (n.getD 1 0)
  | 18 => .population (n.getD 0 0)
  | 19 => .problems
  | 20 => .isEqual row
  | 21 => .difference row
  | _ => .check row
def numsOf : List Nat := [0, 0, 0, 0, 0, 0, 1, 0, 1, 1, 0, 0, 0, 2, 2, 4, 2, 2, 1, 0, 0, 0, 0]
def deedName : List Str := ["create", "load", "amend", "show_tokens", "evaluate", "print_model", "print_line", "counts", "show_station", "class_name", "find_station", "find_class", "constant", "service", "arrival", "route", "leaving", "out_sum", "population", "problems", "is_equal", "difference", "check"]
def deedA (K : PySem.W.Frag) (p : Nat) : Addr := He.ga K (deedName.getD p "create")
def deedSp (K : PySem.W.Frag) (p : Nat) : Sp := match p with
  | 0 => sp_create K
  | 1 => sp_load K
  | 2 => sp_amend K
  | 3 => sp_show_tokens K
  | 4 => sp_evaluate K
  | 5 => sp_print_model K
  | 6 => sp_print_line K
  | 7 => sp_counts K
  | 8 => sp_show_station K
  | 9 => sp_class_name K
  | 10 => sp_find_station K
  | 11 => sp_find_class K
  | 12 => sp_constant K
  | 13 => sp_service K
  | 14 => sp_arrival K
  | 15 => sp_route K
  | 16 => sp_leaving K
  | 17 => sp_out_sum K
  | 18 => sp_population K
  | 19 => sp_problems K
  | 20 => sp_is_equal K
  | 21 => sp_difference K
  | _ => sp_check K
def DeedOf (K : PySem.W.Frag) (f : Addr) (sp : Sp) : Prop := ∃ p, p < 23 ∧ f = deedA K p ∧ sp = deedSp K p
theorem deeds_ok {w : World} {K : PySem.W.Frag} {mg : Str → Option Value} {base : Heap} (T : Txt w K mg) : ∀ f sp, DeedOf K f sp → HeldF prog w K mg base (L2.CX prog w) 14 f sp := by
  rintro f sp ⟨p, hp, rfl, rfl⟩
  match p, hp with
  | 0, _ => exact (ok_create T).held.up (by decide)
  | 1, _ => exact (ok_load T).held.up (by decide)
  | 2, _ => exact (ok_amend T).held.up (by decide)
  | 3, _ => exact (ok_show_tokens T).held.up (by decide)
  | 4, _ => exact (ok_evaluate T).held.up (by decide)
  | 5, _ => exact (ok_print_model T).held.up (by decide)
  | 6, _ => exact (ok_print_line T).held.up (by decide)
  | 7, _ => exact (ok_counts T).held.up (by decide)
  | 8, _ => exact (ok_show_station T).held.up (by decide)
  | 9, _ => exact (ok_class_name T).held.up (by decide)
  | 10, _ => exact (ok_find_station T).held.up (by decide)
  | 11, _ => exact (ok_find_class T).held.up (by decide)
  | 12, _ => exact (ok_constant T).held.up (by decide)
  | 13, _ => exact (ok_service T).held.up (by decide)
  | 14, _ => exact (ok_arrival T).held.up (by decide)
  | 15, _ => exact (ok_route T).held.up (by decide)
  | 16, _ => exact (ok_leaving T).held.up (by decide)
  | 17, _ => exact (ok_out_sum T).held.up (by decide)
  | 18, _ => exact (ok_population T).held.up (by decide)
  | 19, _ => exact (ok_problems T).held.up (by decide)
  | 20, _ => exact (ok_is_equal T).held.up (by decide)
  | 21, _ => exact (ok_difference T).held.up (by decide)
  | 22, _ => exact (ok_check T).held.up (by decide)
  | q + 23, h => exact absurd h (by omega)
theorem step_load {M : Lrx9.Model} {row : List Nat} : Lrx9.step (some M) (.load row) = if Lrx9.isBytes row = false ∨ Lrx9.isText row = false then (some M, Lrx9.error (-22)) else match Lrx9.runLines false 0 (Lrx9.linesOf row) Lrx9.empty with
    | .error (l, f) => (some M, Lrx9.faultResult l f)
    | .ok next => (some next, Lrx9.number (Lrx9.statementCount next)) := rfl
theorem step_amend {M : Lrx9.Model} {row : List Nat} : Lrx9.step (some M) (.amend row) = if Lrx9.isBytes row = false ∨ Lrx9.isText row = false then (some M, Lrx9.error (-22)) else match Lrx9.runLines true 0 (Lrx9.linesOf row) M with
    | .error (l, f) => (some M, Lrx9.faultResult l f)
    | .ok next => (some next, Lrx9.number (Lrx9.statementCount next)) := rfl
theorem bad_text {t : List Nat} (h : (Lrx9.isBytes t && Lrx9.isText t) = false) : Lrx9.isBytes t = false ∨ Lrx9.isText t = false := Bool.and_eq_false_iff.mp h
theorem good_text {t : List Nat} (h : (Lrx9.isBytes t && Lrx9.isText t) = true) : ¬ (Lrx9.isBytes t = false ∨ Lrx9.isText t = false) := by
  obtain ⟨h1, h2⟩ := Bool.and_eq_true_iff.mp h
  rw [h1, h2]
  rintro (z | z) <;> exact Bool.noConfusion z
theorem step_none {p : Nat} {nums row : List Nat} (hp : p ≠ 0) : Lrx9.step none (callAt p nums row) = (none, Lrx9.error (-11)) := by
  match p, hp with
  | 0, h => exact absurd rfl h
  | 1, _ => rfl
  | 2, _ => rfl
  | 3, _ => rfl
  | 4, _ => rfl
  | 5, _ => rfl
  | 6, _ => rfl
  | 7, _ => rfl
  | 8, _ => rfl
  | 9, _ => rfl
  | 10, _ => rfl
  | 11, _ => rfl
  | 12, _ => rfl
  | 13, _ => rfl
  | 14, _ => rfl
  | 15, _ => rfl
  | 16, _ => rfl
  | 17, _ => rfl
  | 18, _ => rfl
  | 19, _ => rfl
  | 20, _ => rfl
  | 21, _ => rfl
  | q + 22, _ => rfl
theorem DskS.same {K : PySem.W.Frag} {H H' : Hp} {dk dx : Addr} {st : Option Lrx9.Model} (h : DskS K H dk dx st) (s : Same H H') : DskS K H' dk dx st := by
  cases st with
  | none => exact s _ _ h
  | some M =>
    obtain ⟨d, D⟩ := h
    exact ⟨d, D.same s⟩
theorem DskS.new {K : PySem.W.Frag} {H H' : Hp} {dk dx : Addr} {st : Option Lrx9.Model} (h : DskS K H dk dx st) (s : Same H H') : DskN K H H' dk dx st := by
  cases st with
  | none => exact s _ _ h
  | some M =>
    obtain ⟨d, D⟩ := h
    exact ⟨d, D.same s, fun z => (by have h := D.ob; rw [z] at h; cases h)⟩
/-- a deed does its call, the desk there -/
theorem deed_does {K : PySem.W.Frag} {H : Hp} {Q : VK} {E : XK} {dk dx : Addr} {M : Lrx9.Model} {p : Nat} {nums row : List Nat} {b c : V} (hp : p < 23) (D : DskS K H dk dx (some M)) (Nv : RowV K H b nums) (hn : nums.length = numsOf.getD p 0) (Rv : RowV K H c row) (hz : row.length ≤ 1000)
    (A : AnsW K dk dx H Q (Lrx9.step (some M) (callAt p nums row)).1 (res (Lrx9.step (some M) (callAt p nums row)).2)) (hR : ∀ ans, AnsW K dk dx H Q (some M) ans → RefS K H E ans) : deedSp K p [.ref dk, b, c] H Q E := by
  obtain ⟨d, D⟩ := D
  have rd : ∀ {n : Nat} {mk : List Nat → List Nat → Lrx9.Call}, nums.length = n → (Lrx9.step (some M) (mk nums row)).1 = some M → AnsW K dk dx H Q (Lrx9.step (some M) (mk nums row)).1 (res (Lrx9.step (some M) (mk nums row)).2) → DeedR n mk K [.ref dk, b, c] H Q E := by
    intro n mk hn e A
    rw [e] at A
    exact ⟨_, _, _, rfl, dk, dx, d, M, nums, row, rfl, Nv, hn, Rv, hz, D, fun b H' s nb eb => A b H' s.fm nb ⟨d, D.same s, fun z => (by have h := D.ob; rw [z] at h; cases h)⟩ eb, hR _ A⟩
  match p, hp with
  | 0, _ => exact ⟨_, _, _, rfl, dk, dx, _, rfl, D.ob, A⟩
  | 1, _ =>
    have A : AnsW K dk dx H Q (Lrx9.step (some M) (.load row)).1 (res (Lrx9.step (some M) (.load row)).2) := A
    rw [step_load] at A
    refine ⟨_, _, _, rfl, dk, dx, _, row, rfl, D.ob, Rv, hz, fun h => ?_, fun h => ?_⟩
    · rw [if_pos (bad_text h)] at A
      exact hR _ A
    · rw [if_neg (good_text h)] at A
      cases hr : Lrx9.runLines false 0 (Lrx9.linesOf row) Lrx9.empty with
      | error y =>
        obtain ⟨n, f⟩ := y
        rw [hr] at A
        exact hR _ A
      | ok M' =>
        rw [hr] at A
        exact A
  | 2, _ =>
    have A : AnsW K dk dx H Q (Lrx9.step (some M) (.amend row)).1 (res (Lrx9.step (some M) (.amend row)).2) := A
    rw [step_amend] at A
    refine ⟨_, _, _, rfl, dk, dx, d, M, row, rfl, D, Rv, hz, fun h => ?_, fun h => ?_⟩
    · rw [if_pos (bad_text h)] at A
      exact hR _ A
    · rw [if_neg (good_text h)] at A
      cases hr : Lrx9.runLines true 0 (Lrx9.linesOf row) M with
      | error y =>
        obtain ⟨n, f⟩ := y
        rw [hr] at A
        exact hR _ A
      | ok M' =>
        rw [hr] at A
        exact A
  | 3, _ => exact rd hn rfl A
  | 4, _ => exact rd hn rfl A
  | 5, _ => exact rd hn rfl A
  | 6, _ => exact rd hn rfl A
  | 7, _ => exact rd hn rfl A
  | 8, _ => exact rd hn rfl A
  | 9, _ => exact rd hn rfl A
  | 10, _ => exact rd hn rfl A
  | 11, _ => exact rd hn rfl A
  | 12, _ => exact rd hn rfl A
  | 13, _ => exact rd hn rfl A
  | 14, _ => exact rd hn rfl A
  | 15, _ => exact rd hn rfl A
  | 16, _ => exact rd hn rfl A
  | 17, _ => exact rd hn rfl A
  | 18, _ => exact rd hn rfl A
  | 19, _ => exact rd hn rfl A
  | 20, _ => exact rd hn rfl A
  | 21, _ => exact rd hn rfl A
  | 22, _ => exact rd hn rfl A
  | q + 23, h => exact absurd h (by omega)
def sp_answered (K : PySem.W.Frag) : Sp := sp5 fun a b c e g H Q _ => ∃ (p : Nat) (dk dx : Addr) (st : Option Lrx9.Model) (nums row : List Nat), p < 23 ∧ a = .ref (deedA K p) ∧ b = .ref dk ∧ RowV K H c nums ∧ nums.length = numsOf.getD p 0 ∧ RowV K H e row ∧ row.length ≤ 1000 ∧ g = .bl (p == 0) ∧
  DskS K H dk dx st ∧ AnsW K dk dx H Q (Lrx9.step st (callAt p nums row)).1 (res (Lrx9.step st (callAt p nums row)).2)
theorem ok_answered {w : World} {K : PySem.W.Frag} {mg : Str → Option Value} {base : Heap} (T : Txt w K mg) : OKF w K mg base (CX0) 15 d_answered ["deed", "desk", "numbers", "row", "is_first"] (sp_answered K) := by
  refine okf_mk (k := 14) T 107 rfl sc_answered rfl rfl (fun _ _ _ _ _ _ us hl => match us, hl with | [_, _, _, _, _], _ => rfl) sp5_len (fun f cdv A outer s H vs Q E hr h => ?_)
  refine ⟨_, (PSs.nox (pss_one (L2.ps_try_as (tb := fun W => tSeq (tDrop (tCallS (sp_ask K) (WE W) (tCons (tOrV (tVar 4) (tOp (fun x y H Q => y = .non ∧ Q (.bl (!decide (x = .non))) H) (tFld K (tVar 1) "model") (tC .non))) (tCons (tC (.int (-11))) tNil)))) (tRet (tCallFS (DeedOf K) (WE W) (tVar 0) (tCons (tVar 1) (tCons (tVar 2) (tCons (tVar 3) tNil)))))) (ts := fun a cls d => tRet (tCB (rLO K) (tCons (tXf a cls d (cRef K) "row" (tVar 5)) tNil))) (i := 5) rfl rfl sc_answered.nd rfl rfl ⟨rfl, by decide, .inl T.g_Refused⟩ takes0 (fun W pn xe tk _ => (pss_cons (ps_expr (pe_okS (ok_ask T) (hr.mono (by decide)) rfl T.g_ask (fun σ => L2.passAt tk σ) (pa_cons (pe_or (pv 4) (pe_one (pe_cmpR op_notN (pe_fld (pv 1) rfl) pe_non (nomark _)))) (pa_cons (pe_gint rfl (T.int_NO_INSTANCE)) pa_nil))))
      (pss_one (ps_ret (pe_callLocS (j := 0) (deeds_ok T) (hr.mono (by decide)) (fun σ => L2.passAt tk σ) rfl (by first | exact .inl rfl | decide) (pa_cons (pv 1) (pa_cons (pv 2) (pa_cons (pv 3) pa_nil))))))))
      (fun a oe cls d pn hz hf => (pss_one (ps_ret (pe_callTy call_list_of rfl T.f_list boot_list (pa_cons ((pe_xf T.o_Refused.2 T.n_Refused_row hz hf (pv 5))) pa_nil)))))))), ?_⟩
  obtain ⟨_, _, c, e, _, rfl, p, dk, dx, st, nums, row, hp, rfl, rfl, Nv, hn, Rv, hz, rfl, D, A⟩ := h
  have hR : ∀ (ans : List Int) (H1 : Hp), Same H H1 → AnsW K dk dx H Q st ans → RefS K H1 (WE (wAs K (Value.ref (He.ga K "Refused")) 5 (fun a cls d => tRet (tCB (rLO K) (tCons (tXf a cls d (cRef K) "row" (tVar 5)) tNil))) (fun _ _ _ _ => False) { nx := fun _ H' => Q V.non H', rt := Q }) (L2.start N_answered [.ref (deedA K p), .ref dk, c, e, .bl (p == 0)])) ans := by
    intro ans H1 s1 A1 dd b H2 s2 hd hb
    refine ⟨true, T.exm_Refused_Refused, fun _ a ha => ?_, fun z => nomatch z⟩
    refine ⟨_, rfl, rfl, rfl, dd, _, _, rfl, hd, rfl, _, _, rfl, .inl (SqL.of hb), fun l hl => ?_⟩
    have s02 := s1.trans s2
    exact A1 l _ (s02.to hl).fm (s02.no l hl) (D.new (s02.to hl)) upd_same
  by_cases p0 : p = 0
  · subst p0
    obtain ⟨v, hv⟩ := D.ob
    refine ⟨_, rfl, _, rfl, iteT ?_⟩
    refine ⟨_, _, rfl, true, -11, rfl, rfl, fun _ => ?_, fun z => nomatch z⟩
    exact ⟨_, rfl, _, _, rfl, ⟨0, by decide, rfl, rfl⟩, _, rfl, _, rfl, _, rfl, _, _, _, rfl, dk, dx, v, rfl, hv, A⟩
  · have e0 : (p == 0) = false := beq_false_of_ne p0
    rw [e0] at hR ⊢
    cases st with
    | none =>
      rw [step_none p0] at A
      have D' : H dk = some (.ins (cDesk K) dx [("model", .non)]) := D
      refine ⟨_, rfl, _, rfl, iteF ⟨_, rfl, _, _, _, _, _, rfl, D', T.c_Desk, T.n_Desk_model, rfl, rfl, ?_⟩⟩
      exact ⟨_, _, rfl, _, -11, rfl, rfl, fun z => (by simp at z), fun _ => hR [-11] H (Same.refl _) A⟩
    | some M =>
      obtain ⟨d, D⟩ := D
      refine ⟨_, rfl, _, rfl, iteF ⟨_, rfl, _, _, _, _, _, rfl, D.ob, T.c_Desk, T.n_Desk_model, rfl, rfl, ?_⟩⟩
      refine ⟨_, _, rfl, _, -11, rfl, rfl, fun z => ?_, fun z => (by simp at z)⟩
      exact ⟨_, rfl, _, _, rfl, ⟨p, hp, rfl, rfl⟩, _, rfl, _, rfl, _, rfl, deed_does hp ⟨d, D⟩ Nv hn Rv hz A (fun ans A1 => hR ans H (Same.refl _) A1)⟩
end Q
set_option Elab.async false
set_option linter.all false
set_option maxRecDepth 100000
set_option maxHeartbeats 4000000
namespace Q
open PySem PySem.Spec PyProof.Rows L2
/-! ### the calls of a list, one behind another -/
def rowsOf : List Nat := [0, 1, 1, 1, 1, 0, 0, 0, 0, 0, 1, 1, 1, 0, 0, 0, 0, 0, 0, 0, 1, 1, 1]
theorem shape_at {p : Nat} (h : p < 23) : PyLrx9.shape (p : Int) = some (numsOf.getD p 0, rowsOf.getD p 0) := by
  match p, h with
  | 0, _ => rfl
  | 1, _ => rfl
  | 2, _ => rfl
  | 3, _ => rfl
  | 4, _ => rfl
  | 5, _ => rfl
  | 6, _ => rfl
  | 7, _ => rfl
  | 8, _ => rfl
  | 9, _ => rfl
  | 10, _ => rfl
  | 11, _ => rfl
  | 12, _ => rfl
  | 13, _ => rfl
  | 14, _ => rfl
  | 15, _ => rfl
  | 16, _ => rfl
  | 17, _ => rfl
  | 18, _ => rfl
  | 19, _ => rfl
  | 20, _ => rfl
  | 21, _ => rfl
  | 22, _ => rfl
  | q + 23, h => exact absurd h (by omega)
theorem shape_no {p : Nat} (h : 23 ≤ p) : PyLrx9.shape (p : Int) = none := by
  unfold PyLrx9.shape
  iterate 23 rw [if_neg (by omega)]
theorem toI_take (l : List Nat) (n : Nat) : (Lrx9.toInts l).take n = Lrx9.toInts (l.take n) := List.map_take.symm
theorem toI_drop (l : List Nat) (n : Nat) : (Lrx9.toInts l).drop n = Lrx9.toInts (l.drop n) := List.map_drop.symm
theorem toI_len (l : List Nat) : (Lrx9.toInts l).length = l.length := List.length_map ..
theorem toI_nat (l : List Nat) : (Lrx9.toInts l).map Int.toNat = l := by
  unfold Lrx9.toInts
  rw [List.map_map]
  conv => rhs; rw [← List.map_id l]
  exact List.map_congr_left fun n _ => Int.toNat_natCast n
/-- one call read off: its numbers, its row, what's left -/
structure Dec (p : Nat) (r nums row tn : List Nat) : Prop where
  lt : p < 23
  ln : nums.length = numsOf.getD p 0
  le : numsOf.getD p 0 ≤ r.length
  ns : nums = r.take (numsOf.getD p 0)
  r0 : rowsOf.getD p 0 ≠ 1 → row = [] ∧ tn = r.drop (numsOf.getD p 0)
  r1 : rowsOf.getD p 0 = 1 → ∃ k r', r.drop (numsOf.getD p 0) = k :: r' ∧ k ≤ r'.length ∧ row = r'.take k ∧ tn = r'.drop k
def rawCall (p : Nat) (nums row : List Nat) : List (List Int) := ((p : Int) :: Lrx9.toInts nums) :: (if rowsOf.getD p 0 = 1 then [Lrx9.toInts row] else [])
theorem rows01 {p : Nat} : rowsOf.getD p 0 = 0 ∨ rowsOf.getD p 0 = 1 := by
  rw [List.getD_eq_getElem?_getD]
  cases h : rowsOf[p]? with
  | none => exact .inl rfl
  | some w =>
    have all : ∀ w ∈ rowsOf, w = 0 ∨ w = 1 := by decide
    exact all w (List.mem_of_getElem? h)
theorem call_dec {p : Nat} {r : List Nat} {c : List (List Int)} {t : List Int} (h : PyFlat.call PyLrx9.shape (Lrx9.toInts (p :: r)) = some (c, t)) : ∃ nums row tn, Dec p r nums row tn ∧ c = rawCall p nums row ∧ t = Lrx9.toInts tn := by
  have h : PyFlat.call PyLrx9.shape ((p : Int) :: Lrx9.toInts r) = some (c, t) := h
  unfold PyFlat.call at h
  simp only at h
  by_cases hp : p < 23
  · rw [shape_at hp] at h
    simp only at h
    rw [toI_len] at h
    by_cases hl : r.length < numsOf.getD p 0
    · rw [if_pos hl] at h
      cases h
    · rw [if_neg hl, toI_drop, toI_take] at h
      have lt : (r.take (numsOf.getD p 0)).length = numsOf.getD p 0 := by rw [List.length_take]; omega
      rcases rows01 (p := p) with e | e
      · rw [e] at h
        have h : some ([((p : Int) :: Lrx9.toInts (r.take (numsOf.getD p 0)))], Lrx9.toInts (r.drop (numsOf.getD p 0))) = some (c, t) := h
        injection h with h
        injection h with h1 h2
        refine ⟨_, [], r.drop (numsOf.getD p 0), ⟨hp, lt, by omega, rfl, fun _ => ⟨rfl, rfl⟩, fun z => (by rw [e] at z; cases z)⟩, ?_, h2.symm⟩
        unfold rawCall
        rw [e, if_neg (by decide)]
        exact h1.symm
      · rw [e] at h
        cases q : r.drop (numsOf.getD p 0) with
        | nil => rw [q] at h; cases h
        | cons k r' =>
          rw [q] at h
          have h : (match (match (if (0 : Int) ≤ (k : Int) ∧ ((k : Int)).toNat ≤ (Lrx9.toInts r').length then some ((Lrx9.toInts r').take ((k : Int)).toNat, (Lrx9.toInts r').drop ((k : Int)).toNat) else none) with
            | none => none
            | some (x, s) => match PyFlat.rows 0 s with
              | none => none
              | some (xs, t) => some (x :: xs, t)) with
            | none => none
            | some (xs, t) => some (((p : Int) :: Lrx9.toInts (r.take (numsOf.getD p 0))) :: xs, t)) = some (c, t) := h
          rw [Int.toNat_natCast, toI_len, toI_take, toI_drop] at h
          by_cases hk : k ≤ r'.length
          · rw [if_pos ⟨by omega, hk⟩] at h
            have h : some (((p : Int) :: Lrx9.toInts (r.take (numsOf.getD p 0))) :: [Lrx9.toInts (r'.take k)], Lrx9.toInts (r'.drop k)) = some (c, t) := h
            injection h with h
            injection h with h1 h2
            refine ⟨_, r'.take k, r'.drop k, ⟨hp, lt, by omega, rfl, fun z => absurd e z, fun _ => ⟨k, r', q, hk, rfl, rfl⟩⟩, ?_, h2.symm⟩
            unfold rawCall
            rw [e, if_pos rfl]
            exact h1.symm
          · rw [if_neg fun z => hk z.2] at h
            cases h
  · rw [shape_no (by omega)] at h
    cases h
/-- a call by its numbers and its row -/
theorem call_of {p : Nat} {nums row : List Nat} (hp : p < 23) (hn : nums.length = numsOf.getD p 0) (h0 : rowsOf.getD p 0 ≠ 1 → row = []) : Lrx9Neutral.callOf (PyLrx9.whole (rawCall p nums row)) = some (callAt p nums row) := by
  have e := toI_nat row
  have n0 : ∀ {n : List Nat}, n.length = 0 → n = [] := fun h => List.length_eq_zero_iff.mp h
  have n1 : ∀ {n : List Nat}, n.length = 1 → ∃ i, n = [i] := fun h => List.length_eq_one_iff.mp h
  match p, hp with
  | 0, _ => obtain rfl := n0 hn; rfl
  | 1, _ => obtain rfl := n0 hn; show some (Lrx9.Call.load ((Lrx9.toInts row).map Int.toNat)) = _; rw [e]; rfl
  | 2, _ => obtain rfl := n0 hn; show some (Lrx9.Call.amend ((Lrx9.toInts row).map Int.toNat)) = _; rw [e]; rfl
  | 3, _ => obtain rfl := n0 hn; show some (Lrx9.Call.tokens ((Lrx9.toInts row).map Int.toNat)) = _; rw [e]; rfl
  | 4, _ => obtain rfl := n0 hn; show some (Lrx9.Call.evaluate ((Lrx9.toInts row).map Int.toNat)) = _; rw [e]; rfl
  | 5, _ => obtain rfl := n0 hn; rfl
  | 6, _ => obtain ⟨i, rfl⟩ := n1 hn; rfl
  | 7, _ => obtain rfl := n0 hn; rfl
  | 8, _ => obtain ⟨i, rfl⟩ := n1 hn; rfl
  | 9, _ => obtain ⟨i, rfl⟩ := n1 hn; rfl
  | 10, _ => obtain rfl := n0 hn; show some (Lrx9.Call.findStation ((Lrx9.toInts row).map Int.toNat)) = _; rw [e]; rfl
  | 11, _ => obtain rfl := n0 hn; show some (Lrx9.Call.findClass ((Lrx9.toInts row).map Int.toNat)) = _; rw [e]; rfl
  | 12, _ => obtain rfl := n0 hn; show some (Lrx9.Call.constant ((Lrx9.toInts row).map Int.toNat)) = _; rw [e]; rfl
  | 13, _ => obtain ⟨i, r, rfl⟩ := len_two hn; rfl
  | 14, _ => obtain ⟨i, r, rfl⟩ := len_two hn; rfl
  | 15, _ => obtain ⟨i, r, j, s, rfl⟩ := len_four hn; rfl
  | 16, _ => obtain ⟨i, r, rfl⟩ := len_two hn; rfl
  | 17, _ => obtain ⟨i, r, rfl⟩ := len_two hn; rfl
  | 18, _ => obtain ⟨i, rfl⟩ := n1 hn; rfl
  | 19, _ => obtain rfl := n0 hn; rfl
  | 20, _ => obtain rfl := n0 hn; show some (Lrx9.Call.isEqual ((Lrx9.toInts row).map Int.toNat)) = _; rw [e]; rfl
  | 21, _ => obtain rfl := n0 hn; show some (Lrx9.Call.difference ((Lrx9.toInts row).map Int.toNat)) = _; rw [e]; rfl
  | 22, _ => obtain rfl := n0 hn; show some (Lrx9.Call.check ((Lrx9.toInts row).map Int.toNat)) = _; rw [e]; rfl
  | q + 23, h => exact absurd h (by omega)
theorem row_small_of {p : Nat} {nums row : List Nat} (hp : p < 23) (hn : nums.length = numsOf.getD p 0) (h0 : rowsOf.getD p 0 ≠ 1 → row = []) (h : PyInside.call PyLrx9.bound (rawCall p nums row) = true) : row.length ≤ 1000 := by
  rcases rows01 (p := p) with e | e
  · rw [h0 (by rw [e]; decide)]
    exact Nat.zero_le _
  · have go : PyInside.lists [(0, 4294967295, 0, 1000)] [Lrx9.toInts row] = true → row.length ≤ 1000 := fun h => by
      unfold PyInside.lists at h
      simp only [Bool.and_eq_true, decide_eq_true_iff] at h
      have := h.1.1.2
      rw [toI_len] at this
      exact this
    unfold rawCall at h
    rw [e, if_pos rfl] at h
    unfold PyInside.call at h
    simp only [Bool.and_eq_true] at h
    have h := h.2
    match p, hp with
    | 0, _ => cases e
    | 1, _ => exact go h
    | 2, _ => exact go h
    | 3, _ => exact go h
    | 4, _ => exact go h
    | 5, _ => cases e
    | 6, _ => cases e
    | 7, _ => cases e
    | 8, _ => cases e
    | 9, _ => cases e
    | 10, _ => exact go h
    | 11, _ => exact go h
    | 12, _ => exact go h
    | 13, _ => cases e
    | 14, _ => cases e
    | 15, _ => cases e
    | 16, _ => cases e
    | 17, _ => cases e
    | 18, _ => cases e
    | 19, _ => cases e
    | 20, _ => exact go h
    | 21, _ => exact go h
    | 22, _ => exact go h
    | q + 23, h => exact absurd h (by omega)
/-- what the calls that are left answer -/
def toldBy (st : Option Lrx9.Model) (cs : List (List (List Int))) : List Int := PyFlat.told (PyFlat.played Lrx9Neutral.step st (cs.map PyLrx9.whole))
theorem told_step {st : Option Lrx9.Model} {c : List (List Int)} {cs : List (List (List Int))} {x : Lrx9.Call} (h : Lrx9Neutral.callOf (PyLrx9.whole c) = some x) :
    toldBy st (c :: cs) = (((res (Lrx9.step st x).2).length : Int) :: res (Lrx9.step st x).2) ++ toldBy (Lrx9.step st x).1 cs := by
  have e : Lrx9Neutral.step st (PyLrx9.whole c) = ((Lrx9.step st x).1, res (Lrx9.step st x).2) := by
    unfold Lrx9Neutral.step
    rw [h]
    rfl
  unfold toldBy PyFlat.told
  rw [List.map_cons]
  show List.flatMap _ ((Lrx9Neutral.step st (PyLrx9.whole c)).2 :: PyFlat.played Lrx9Neutral.step (Lrx9Neutral.step st (PyLrx9.whole c)).1 (cs.map PyLrx9.whole)) = _
  rw [e, List.flatMap_cons]
/-- the first of the calls that are left -/
theorem calls_step {f p : Nat} {r : List Nat} {cs : List (List (List Int))} (h : PyFlat.calls PyLrx9.shape f (Lrx9.toInts (p :: r)) = some cs) : ∃ f' nums row tn cs', Dec p r nums row tn ∧ cs = rawCall p nums row :: cs' ∧ PyFlat.calls PyLrx9.shape f' (Lrx9.toInts tn) = some cs' := by
  cases f with
  | zero => cases h
  | succ f =>
    have h : (match PyFlat.call PyLrx9.shape (Lrx9.toInts (p :: r)) with
      | none => none
      | some (c, t) => match PyFlat.calls PyLrx9.shape f t with
        | none => none
        | some cs => some (c :: cs)) = some cs := h
    cases q : PyFlat.call PyLrx9.shape (Lrx9.toInts (p :: r)) with
    | none => rw [q] at h; cases h
    | some y =>
      obtain ⟨c, t⟩ := y
      rw [q] at h
      obtain ⟨nums, row, tn, D, rfl, rfl⟩ := call_dec q
      have h : (match PyFlat.calls PyLrx9.shape f (Lrx9.toInts tn) with
        | none => none
        | some cs => some (rawCall p nums row :: cs)) = some cs := h
      cases q2 : PyFlat.calls PyLrx9.shape f (Lrx9.toInts tn) with
      | none => rw [q2] at h; cases h
      | some cs' =>
        rw [q2] at h
        injection h with h
        exact ⟨f, nums, row, tn, cs', D, h.symm, q2⟩
theorem calls_end {f : Nat} {cs : List (List (List Int))} (h : PyFlat.calls PyLrx9.shape f [] = some cs) : cs = [] := by
  cases f with
  | zero => injection h with h; exact h.symm
  | succ f => injection h with h; exact h.symm
end Q
set_option Elab.async false
set_option linter.all false
set_option maxRecDepth 100000
set_option maxHeartbeats 4000000
namespace Q
open PySem PySem.Spec PyProof.Rows L2
/-! ### all calls -/
theorem deeds_at {K : PySem.W.Frag} {p : Nat} (h : p < 23) : atI (t_DEEDS.map (He.Dv.v K)) (p : Int) = some (.ref (deedA K p)) := by
  refine atI_nat ?_
  match p, h with
  | 0, _ => rfl
  | 1, _ => rfl
  | 2, _ => rfl
  | 3, _ => rfl
  | 4, _ => rfl
  | 5, _ => rfl
  | 6, _ => rfl
  | 7, _ => rfl
  | 8, _ => rfl
  | 9, _ => rfl
  | 10, _ => rfl
  | 11, _ => rfl
  | 12, _ => rfl
  | 13, _ => rfl
  | 14, _ => rfl
  | 15, _ => rfl
  | 16, _ => rfl
  | 17, _ => rfl
  | 18, _ => rfl
  | 19, _ => rfl
  | 20, _ => rfl
  | 21, _ => rfl
  | 22, _ => rfl
  | q + 23, h => exact absurd h (by omega)
theorem tab_nat {K : PySem.W.Frag} {l : List Nat} {p : Nat} (h : p < l.length) : atI (vN l) (p : Int) = some (.int ((l.getD p 0 : Nat) : Int)) := by
  refine vN_at ?_
  rw [List.getD_eq_getElem?_getD, List.getElem?_eq_getElem h]
  rfl
theorem asked_facts {l : List Int} (h : PyLrx9.answers_asked l = true) : ∃ raw, PyFlat.calls PyLrx9.shape l.length l = some raw ∧ (∀ c ∈ raw, PyInside.call PyLrx9.bound c = true) ∧ (PyLrx9.answers l).length ≤ 10000000 ∧ toldBy none raw = PyLrx9.answers l := by
  unfold PyLrx9.answers_asked at h
  cases q : PyFlat.calls PyLrx9.shape l.length l with
  | none => rw [q] at h; cases h
  | some raw =>
    rw [q] at h
    simp only [Bool.and_eq_true] at h
    obtain ⟨⟨⟨⟨h1, h2⟩, h3⟩, h4⟩, h5⟩ := h
    refine ⟨raw, rfl, fun c hc => List.all_eq_true.mp h3 c hc, of_decide_eq_true h5, ?_⟩
    unfold PyLrx9.answers PyLrx9.calls
    rw [q]
    rfl
/-- the desk stands where a list changes that is not its own -/
theorem MdO.put {K : PySem.W.Frag} {H : Hp} {d : MD} {M : Lrx9.Model} {fd : Addr} {xs ys : List V} (h : MdO K H d M) (hf : H fd = some (.lst xs)) (n1 : fd ≠ d.cl) (n2 : fd ≠ d.st) : MdO K (upd H fd (.lst ys)) d M := by
  have F : Fm (fun b => b = fd) H (upd H fd (.lst ys)) := (Fm.refl H).put hf id (.inr rfl)
  have no : ∀ {b : Addr} {o : HO}, H b = some o → (∀ zs, o ≠ .lst zs) → ¬ b = fd := fun e n z => by
    rw [z, hf] at e
    exact n xs (Option.some.inj e).symm
  refine ⟨F.st _ _ h.ob fun s => absurd s (no h.ob fun _ z => by cases z), h.co.fm F ?_, F.st _ _ h.cl fun s => absurd s.symm n1, ?_, h.sv.fm F ?_, h.ar.fm F ?_, h.ro.fm F ?_, h.le.fm F ?_, h.po.fm F ?_, h.n1, h.n2, h.n3⟩
  · obtain ⟨kvs, h1, -⟩ := h.co
    exact no h1 fun _ z => by cases z
  · exact h.st.fm F (fun z => n2 z.symm) fun b dx s hb => no hb fun _ z => by cases z
  · obtain ⟨kvs, es, h1, -⟩ := h.sv
    exact no h1 fun _ z => by cases z
  · obtain ⟨kvs, es, h1, -⟩ := h.ar
    exact no h1 fun _ z => by cases z
  · obtain ⟨kvs, es, h1, -⟩ := h.ro
    exact no h1 fun _ z => by cases z
  · obtain ⟨kvs, es, h1, -⟩ := h.le
    exact no h1 fun _ z => by cases z
  · obtain ⟨kvs, es, h1, -⟩ := h.po
    exact no h1 fun _ z => by cases z
theorem fd_apart {K : PySem.W.Frag} {H : Hp} {d : MD} {M : Lrx9.Model} {fd : Addr} {done : List Int} (h : MdO K H d M) (hf : H fd = some (.lst (vI done))) (ne : done ≠ []) : fd ≠ d.cl ∧ fd ≠ d.st := by
  cases done with
  | nil => exact absurd rfl ne
  | cons i r =>
    refine ⟨fun z => ?_, fun z => ?_⟩
    · have e := h.cl
      rw [← z, hf] at e
      have e := Option.some.inj e
      injection e with e
      cases q : M.classes with
      | nil => rw [q] at e; cases e
      | cons w ws =>
        rw [q] at e
        have e : V.int i :: vI r = V.str (sT w) :: words ws := e
        cases e
    · obtain ⟨vst, e, p⟩ := h.st
      rw [← z, hf] at e
      have e := Option.some.inj e
      injection e with e
      generalize M.stations = sts at p
      cases p with
      | nil => cases e
      | cons hh tt =>
        obtain ⟨b, dx, rfl, -⟩ := hh
        have e : V.int i :: vI r = V.ref b :: _ := e
        cases e
theorem DskS.put {K : PySem.W.Frag} {H : Hp} {dk dx fd : Addr} {st : Option Lrx9.Model} {done : List Int} {ys : List V} (h : DskS K H dk dx st) (hf : H fd = some (.lst (vI done))) (ne : done ≠ []) : DskS K (upd H fd (.lst ys)) dk dx st := by
  have nd : dk ≠ fd := by
    rintro rfl
    obtain ⟨v, e⟩ := h.ob
    rw [e] at hf
    cases hf
  cases st with
  | none => exact (upd_ne nd).trans h
  | some M =>
    obtain ⟨d, D⟩ := h
    obtain ⟨n1, n2⟩ := fd_apart D.mo hf ne
    exact ⟨d, (upd_ne nd).trans D.ob, D.mo.put hf n1 n2, D.wf⟩
theorem DskN.put {K : PySem.W.Frag} {H1 H : Hp} {dk dx fd : Addr} {st : Option Lrx9.Model} {done : List Int} {ys : List V} (h : DskN K H1 H dk dx st) (hf : H fd = some (.lst (vI done))) (h0 : done = [] → H1 dk = some (.ins (cDesk K) dx [("model", .non)])) (h1 : H1 fd ≠ none) : DskS K (upd H fd (.lst ys)) dk dx st := by
  by_cases ne : done = []
  · have nd : dk ≠ fd := by
      rintro rfl
      obtain ⟨v, e⟩ := h.s.ob
      rw [e] at hf
      cases hf
    cases st with
    | none => exact (upd_ne nd).trans h
    | some M =>
      obtain ⟨d, D, nw⟩ := h
      obtain ⟨n1, n2⟩ := nw (h0 ne) fd h1
      exact ⟨d, (upd_ne nd).trans D.ob, D.mo.put hf n1 n2, D.wf⟩
  · exact h.s.put hf ne
theorem dec_one {m k : Nat} : decide (V.int (m : Int) = V.int (k : Int)) = decide (m = k) := decide_eq_decide.mpr ⟨fun z => by injection z with z; omega, fun z => by rw [z]⟩
/-- a def keeps a promise, whatever stood before -/
theorem okf_all {w : World} {K : PySem.W.Frag} {mg : Str → Option Value} {CX : CXT} {d : He.DefD} {N ps : List Str} {k : Nat} {sp : Sp} (T : Txt w K mg) (i : Nat) (hi : fns[i]? = some d) (S : FnScope N ps d.scope) (hdf : d.dvs K = []) (hkw : d.kws K = [])
    (hb : ∀ (kV doc pm : Value) (an : Option Addr) (cdv ct : Value) (us : List Value), us.length = ps.length → bindArgs (PySem.W.fnOf d.name d.qual d.params d.body d.scope .none kV doc pm an cdv ct) ⟨us, []⟩ = pure (ps.zip us))
    (len : ∀ vs H Q E, sp vs H Q E → vs.length = ps.length)
    (hbody : ∀ (base : Heap) (f : Addr) (cdv : Value) (A : Around) (outer : List Env) (s : Shared) (H : Hp) (vs : List V) (Q : VK) (E : XK), Room k (A.deeper (envOfC d.qual d.scope s.heap.objs.size f cdv)) → sp vs H Q E →
      ∃ t, PSs (cxOf CX prog w K mg base N d.qual d.scope f cdv A outer s H E) d.body t ∧ t { nx := fun _ H' => Q .non H', rt := Q } (start N vs) H) :
    ∃ fd, (∀ (s : Shared) (us : List Value), us.length = ps.length → BindsTo s fd ⟨us, []⟩ (ps.zip us)) ∧ ∀ base, FnOk prog w K mg base CX (k + 1) (He.fAd K d.at_) fd ps sp := by
  obtain ⟨fd, F⟩ := T.c.t.d.def_ i hi
  rw [hdf, hkw] at F
  exact ⟨fd, fun s us hl => F.bindsA hb s us hl, fun base => F.ok S len fun cdv A outer s H vs Q E hr h => hbody base _ cdv A outer s H vs Q E hr h⟩
def sp_answers (K : PySem.W.Frag) : Sp := sp1 fun a H Q _ => ∃ (ca : Addr) (ln : List Nat), a = .ref ca ∧ SqL K H ca (vN ln) ∧ PyLrx9.answers_asked (Lrx9.toInts ln) = true ∧ ln.length ≤ 31700 ∧
  ∀ b H', Same H H' → H b = none → H' b = some (.lst (vI (PyLrx9.answers (Lrx9.toInts ln)))) → Q (.ref b) H'
/-- the loop's word -/
def WAns (K : PySem.W.Frag) (H : Hp) (ca dk dx fd : Addr) (ln : List Nat) (all : List Int) (σ : L2.St) (H' : Hp) : Prop :=
  ∃ (a f : Nat) (cs : List (List (List Int))) (st : Option Lrx9.Model) (done : List Int) (v4 v5 v6 v7 : Option V), σ = [some (.ref ca), some (.ref dk), some (.ref fd), some (.int (a : Int)), v4, v5, v6, v7] ∧ Same H H' ∧ a ≤ ln.length ∧
    PyFlat.calls PyLrx9.shape f (Lrx9.toInts (ln.drop a)) = some cs ∧ (∀ c ∈ cs, PyInside.call PyLrx9.bound c = true) ∧ done ++ toldBy st cs = all ∧ DskS K H' dk dx st ∧ H' fd = some (.lst (vI done)) ∧ (done = [] → st = none)
theorem all_answers {w : World} {K : PySem.W.Frag} {mg : Str → Option Value} (T : Txt w K mg) : ∃ fd, (∀ (s : Shared) (us : List Value), us.length = (["calls"] : List Str).length → BindsTo s fd ⟨us, []⟩ ((["calls"] : List Str).zip us)) ∧ ∀ base, FnOk prog w K mg base (CX0) 16 (He.fAd K d_answers.at_) fd ["calls"] (sp_answers K) := by
  refine okf_all (k := 15) T 108 rfl sc_answers rfl rfl (fun _ _ _ _ _ _ us hl => match us, hl with | [_], _ => rfl) sp1_len (fun base f cdv A outer s H vs Q E hr h => ?_)
  refine ⟨_, (PSs.nox (pss_cons (ps_par3 (i := 1) (j := 2) (l := 3) rfl sc_answers.nd rfl rfl rfl (by decide) (by decide) (by decide) rfl rfl rfl (pa_cons (pe_mk0 (ok_Desk_init T) T.k_Desk (hr.mono (by decide)) rfl T.g_Desk pass0) (pa_cons (pe_lst pa_nil) (pa_cons pe_int pa_nil))) (by rfl))
      (pss_cons (ps_while PassesOwn.never (pt_cmpR op_lt (pv 3) (pe_callB call_len_seq rfl T.f_len boot_len (pa_cons (pv 0) pa_nil)) (nomark _))
      (pss_cons (ps_par (i := 6) (j := 7) rfl sc_answers.nd rfl rfl (by decide) rfl rfl (pa_cons (pe_ix ix_list (pv 0) (pv 3) (fun _ _ => rfl)) (pa_cons (pe_lst pa_nil) pa_nil)) (by rfl))
      (pss_cons (ps_set (i := 4) sc_answers.nd rfl (Or.inl rfl) (pe_slice sl_list (pv 0) (po_some (pe_op op_add (pv 3) pe_int)) (po_some (pe_op op_add (pe_op op_add (pv 3) pe_int) (pe_ix ix_tup (pe_gref rfl (T.g_NUMBERS)) (pv 6) (fun _ _ => rfl))))))
      (pss_cons (ps_aug (i := 3) sc_answers.nd rfl (Or.inl rfl) (pe_op op_add pe_int (pe_ix ix_tup (pe_gref rfl (T.g_NUMBERS)) (pv 6) (fun _ _ => rfl))) ip_add)
      (pss_mid (ps_if (pt_cmpR op_eq (pe_ix ix_tup (pe_gref rfl (T.g_ROWS)) (pv 6) (fun _ _ => rfl)) pe_int (nomark _)) (pss_cons (ps_set (i := 7) sc_answers.nd rfl (Or.inl rfl) (pe_slice sl_list (pv 0) (po_some (pe_op op_add (pv 3) pe_int)) (po_some (pe_op op_add (pe_op op_add (pv 3) pe_int) (pe_ix ix_list (pv 0) (pv 3) (fun _ _ => rfl))))))
      (pss_one (ps_aug (i := 3) sc_answers.nd rfl (Or.inl rfl) (pe_op op_add pe_int (pe_callB call_len_seq rfl T.f_len boot_len (pa_cons (pv 7) pa_nil))) ip_add)))
      pss_nil)
      (pss_cons (ps_set (i := 5) sc_answers.nd rfl (Or.inl rfl) (pe_ok (ok_answered T) (hr.mono (by decide)) rfl T.g_answered pass0 (pa_cons (pe_ix ix_tup (pe_gref rfl (T.g_DEEDS)) (pv 6) (fun _ _ => rfl)) (pa_cons (pv 1) (pa_cons (pv 4) (pa_cons (pv 7) (pa_cons (pe_cmpR op_eq (pv 6) pe_int (nomark _)) pa_nil)))))))
      (pss_cons (ps_expr (pe_bm PySem.F.plainAttrs_list PySem.F.slot_list_append PySem.F.type_list_append mt_append (pv 2) (pa_cons (pe_callB call_len_seq rfl T.f_len boot_len (pa_cons (pv 5) pa_nil)) pa_nil)))
      (pss_one (ps_expr (pe_bm PySem.F.plainAttrs_list PySem.F.slot_list_extend PySem.F.type_list_extend mt_extend (pv 2) (pa_cons (pv 5) pa_nil)))))))))))
      (pss_one (ps_ret (pv 2)))))), ?_⟩
  obtain ⟨_, rfl, ca, ln, rfl, hS, asked, hl, hQ⟩ := h
  obtain ⟨raw, hraw, hb, hsh, htold⟩ := asked_facts asked
  have big : (16000000 : Nat) ≤ sizeLine := by decide
  refine fun x dx hx hdx ne => ⟨_, rfl, x, dx, rfl, upd_same, rfl, by show 0 ≤ sizeLine; decide, fun fd hfd => ⟨_, _, _, rfl, ?_⟩⟩
  have hx' : upd H dx (.own x) x = none := by rw [upd_ne (Ne.symm ne)]; exact hx
  have sA : Same H (upd (upd (upd H dx (.own x)) x (.ins (cDesk K) dx [])) x (.ins (cDesk K) dx [("model", .non)])) := ((Same.new hdx).to hx').put hx
  have eA : (upd (upd (upd H dx (.own x)) x (.ins (cDesk K) dx [])) x (.ins (cDesk K) dx [("model", .non)])) x = some (.ins (cDesk K) dx [("model", .non)]) := upd_same
  have hfd : (upd (upd (upd H dx (.own x)) x (.ins (cDesk K) dx [])) x (.ins (cDesk K) dx [("model", .non)])) fd = none := hfd
  have hfd0 : H fd = none := sA.no fd hfd
  have nfx : fd ≠ x := by rintro rfl; rw [eA] at hfd; cases hfd
  refine while_by (WAns K H ca x dx fd ln (PyLrx9.answers (Lrx9.toInts ln))) (fun σ _ => match σ with | [_, _, _, some (.int a), _, _, _, _] => ln.length - a.toNat | _ => 0)
    ⟨0, _, raw, none, [], none, none, none, none, rfl, sA.to hfd, Nat.zero_le _, hraw, hb, htold, Same.new hfd _ _ eA, upd_same, fun _ => rfl⟩ ?_ ?_
  · rintro σ H1 ⟨a, f, cs, st, done, v4, v5, v6, v7, rfl, s1, ha, hc, hbs, hd, D, hf, h0⟩
    refine ⟨_, rfl, _, rfl, _, _, rfl, .inl (s1.seq hS), _, _, rfl, rfl, _, rfl, ?_⟩
    rw [vN_len]
    refine ite2 (fun c => ?_) (fun c => ?_)
    · have hlt : a < ln.length := by
        have := of_decide_eq_true c
        omega
      have hdrop : ln.drop a = ln[a] :: ln.drop (a + 1) := List.drop_eq_getElem_cons hlt
      have hat : ln[a]? = some ln[a] := List.getElem?_eq_getElem hlt
      generalize ln[a] = p at *
      rw [hdrop] at hc
      obtain ⟨f', nums, row, tn, cs', Dc, rfl, hc'⟩ := calls_step hc
      have hp := Dc.lt
      have r0 := fun z => (Dc.r0 z).1
      have row1000 := row_small_of hp Dc.ln r0 (hbs _ List.mem_cons_self)
      rw [told_step (call_of hp Dc.ln r0)] at hd
      have x1 : atI (t_NUMBERS.map (He.Dv.v K)) (p : Int) = some (.int ((numsOf.getD p 0 : Nat) : Int)) := tab_nat (K := K) (l := numsOf) hp
      have x2 : atI (t_ROWS.map (He.Dv.v K)) (p : Int) = some (.int ((rowsOf.getD p 0 : Nat) : Int)) := tab_nat (K := K) (l := rowsOf) hp
      have ldr : (ln.drop (a + 1)).length = ln.length - (a + 1) := List.length_drop
      have lle := Dc.le
      rw [ldr] at lle
      refine ⟨_, rfl, _, rfl, _, _, _, _, rfl, rfl, s1.seq hS, vN_at hat, by show 0 ≤ sizeLine; decide, fun e he => ⟨_, _, rfl, ?_⟩⟩
      have s2 : Same H1 (upd H1 e (.lst [])) := Same.new he
      have f2 : (upd H1 e (.lst [])) e = some (.lst (vN [])) := upd_same
      generalize upd H1 e (.lst []) = H2 at *
      refine ⟨_, rfl, _, rfl, _, _, rfl, rfl, _, rfl, _, rfl, _, _, rfl, rfl, _, rfl, _, _, _, _, rfl, rfl, T.t_NUMBERS _, x1, _, _, rfl, rfl, _, rfl, _, _, rfl, (s1.trans s2).seq hS, fun q hq => ?_⟩
      have e1 : cutV (vN ln) (some ((a : Int) + 1)) (some ((a : Int) + 1 + ((numsOf.getD p 0 : Nat) : Int))) = vN nums := by
        rw [show ((a : Int) + 1 + ((numsOf.getD p 0 : Nat) : Int)) = ((a + 1 + numsOf.getD p 0 : Nat) : Int) by omega, show ((a : Int) + 1) = ((a + 1 : Nat) : Int) by omega, cut_vN (by omega) (by omega), Nat.add_sub_cancel_left, ← Dc.ns]
      rw [e1]
      have s3 : Same H2 (upd H2 q (.lst (vN nums))) := Same.new hq
      have f3 : (upd H2 q (.lst (vN nums))) q = some (.lst (vN nums)) := upd_same
      generalize upd H2 q (.lst (vN nums)) = H3 at *
      refine ⟨_, rfl, _, rfl, _, _, _, _, rfl, rfl, T.t_NUMBERS _, x1, _, _, rfl, rfl, _, _, rfl, rfl, ?_⟩
      dsimp only
      rw [show ((a : Int) + (1 + ((numsOf.getD p 0 : Nat) : Int))) = ((a + 1 + numsOf.getD p 0 : Nat) : Int) by omega]
      have s13 := (s1.trans s2).trans s3
      refine ⟨fun σ H' => ∃ (a2 : Nat) (rq : Addr), σ = [some (.ref ca), some (.ref x), some (.ref fd), some (.int (a2 : Int)), some (.ref q), v5, some (.int (p : Int)), some (.ref rq)] ∧ Same H3 H' ∧ H' rq = some (.lst (vN row)) ∧ ln.drop a2 = tn ∧ a < a2 ∧ a2 ≤ ln.length, ?_, ?_⟩
      · refine ⟨_, rfl, _, _, _, _, rfl, rfl, T.t_ROWS _, x2, rfl, _, rfl, ?_⟩
        rw [show decide (V.int ((rowsOf.getD p 0 : Nat) : Int) = V.int 1) = decide (rowsOf.getD p 0 = 1) from dec_one (k := 1)]
        refine ite2 (fun c1 => ?_) (fun c1 => ?_)
        · obtain ⟨k, r', k1, k2, k3, k4⟩ := Dc.r1 (of_decide_eq_true c1)
          rw [List.drop_drop] at k1
          have k5 := congrArg List.length k1
          rw [List.length_drop, List.length_cons] at k5
          have k6 : ln[a + 1 + numsOf.getD p 0]? = some k := by
            have := congrArg (fun l : List Nat => l[0]?) k1
            simp only [List.getElem?_drop, List.getElem?_cons_zero] at this
            exact this
          have k7 : ln.drop (a + 1 + numsOf.getD p 0 + 1) = r' := by rw [← List.drop_drop, k1]; rfl
          have am : a < a + 1 + numsOf.getD p 0 := by omega
          generalize a + 1 + numsOf.getD p 0 = m at *
          refine ⟨_, rfl, _, rfl, _, _, rfl, rfl, _, rfl, _, rfl, _, _, rfl, rfl, _, rfl, _, rfl, _, _, _, _, rfl, rfl, s13.seq hS, vN_at k6, _, _, rfl, rfl, _, rfl, _, _, rfl, s13.seq hS, fun rq hrq => ?_⟩
          have e2 : cutV (vN ln) (some ((m : Int) + 1)) (some ((m : Int) + 1 + (k : Int))) = vN row := by
            rw [show ((m : Int) + 1 + (k : Int)) = ((m + 1 + k : Nat) : Int) by omega, show ((m : Int) + 1) = ((m + 1 : Nat) : Int) by omega, cut_vN (by omega) (by omega), Nat.add_sub_cancel_left, k7, ← k3]
          rw [e2]
          have rl : row.length = k := by rw [k3, List.length_take]; omega
          refine ⟨_, rfl, _, rfl, _, _, rfl, .inl (SqL.of upd_same), _, _, rfl, rfl, _, _, rfl, rfl, ?_⟩
          dsimp only
          rw [vN_len, show ((m : Int) + (1 + (row.length : Int))) = ((m + 1 + k : Nat) : Int) by omega]
          refine ⟨m + 1 + k, rq, rfl, Same.new hrq, upd_same, ?_, by omega, by omega⟩
          rw [← List.drop_drop, k7, k4]
        · obtain ⟨k1, k2⟩ := Dc.r0 fun z => c1 (decide_eq_true z)
          refine ⟨a + 1 + numsOf.getD p 0, e, rfl, Same.refl _, by rw [k1]; exact s3 _ _ f2, ?_, by omega, by omega⟩
          rw [k2, List.drop_drop]
      · rintro σ H4 ⟨a2, rq, rfl, s4, e4, hdr, l1, l2⟩
        have s14 := (s2.trans s3).trans s4
        have s04 := s1.trans s14
        refine ⟨_, rfl, _, _, _, _, rfl, rfl, T.t_DEEDS _, deeds_at hp, _, rfl, _, rfl, _, rfl, _, rfl, rfl, ?_⟩
        refine ⟨_, _, _, _, _, rfl, p, x, dx, st, nums, row, hp, rfl, rfl, ⟨q, rfl, SqL.of (s4 _ _ f3)⟩, Dc.ln, ⟨rq, rfl, SqL.of e4⟩, row1000, ?_, D.same s14, fun b H5 F5 nb D5 e5 => ?_⟩
        · exact congrArg V.bl (by rw [show decide (V.int (p : Int) = V.int 0) = decide (p = 0) from dec_one (k := 0), Bool.beq_eq_decide_eq])
        generalize res (Lrx9.step st (callAt p nums row)).2 = ans at *
        generalize (Lrx9.step st (callAt p nums row)).1 = st' at *
        have f4 := s14 _ _ hf
        have f5 : H5 fd = some (.lst (vI done)) := F5.st fd _ f4 fun z => absurd z nfx
        have s05 : Same H H5 := Fm.same1 (s04.fm.trans F5) hx
        have nbf : b ≠ fd := by rintro rfl; rw [f4] at nb; cases nb
        have tot : done.length + (1 + ans.length) ≤ 10000000 := by
          rw [← hd] at hsh
          simp only [List.length_append, List.length_cons] at hsh
          omega
        refine ⟨_, rfl, .inl ⟨rfl, _, SqL.of f5⟩, _, rfl, _, _, rfl, .inl (SqL.of e5), fd, vI done, .int (((vI ans).length : Nat) : Int), rfl, rfl, f5, by rw [vI_len]; omega, ?_⟩
        rw [show vI done ++ [V.int (((vI ans).length : Nat) : Int)] = vI (done ++ [(ans.length : Int)]) by rw [vI_app, vI_len]; rfl]
        have D6 : DskS K (upd H5 fd (.lst (vI (done ++ [(ans.length : Int)])))) x dx st' := D5.put f5 (fun z => by
          have e := h0 z
          have D4 := D.same s14
          rw [e] at D4
          exact D4) (by rw [f4]; exact fun z => by cases z)
        have s06 : Same H (upd H5 fd (.lst (vI (done ++ [(ans.length : Int)])))) := s05.put hfd0
        have f6 : (upd H5 fd (.lst (vI (done ++ [(ans.length : Int)])))) fd = some (.lst (vI (done ++ [(ans.length : Int)]))) := upd_same
        have e6 : (upd H5 fd (.lst (vI (done ++ [(ans.length : Int)])))) b = some (.lst (vI ans)) := (upd_ne nbf).trans e5
        generalize upd H5 fd (.lst (vI (done ++ [(ans.length : Int)]))) = H6 at *
        refine ⟨_, rfl, .inl ⟨rfl, _, .inl (.inl f6)⟩, _, rfl, fd, b, _, _, rfl, rfl, f6, e6, by rw [vI_len, vI_len, List.length_append]; simp only [List.length_singleton]; omega, ?_⟩
        rw [← vI_app]
        refine ⟨⟨a2, f', cs', st', done ++ [(ans.length : Int)] ++ ans, _, _, _, _, rfl, s06.put hfd0, l2, by rw [hdr]; exact hc', fun c hc => hbs c (List.mem_cons_of_mem _ hc), ?_, D6.put f6 (by simp), upd_same, fun z => ?_⟩, ?_⟩
        · rw [← hd, List.append_assoc, List.append_assoc]
          rfl
        · simp at z
        · show ln.length - ((a2 : Nat) : Int).toNat < ln.length - ((a : Nat) : Int).toNat
          rw [Int.toNat_natCast, Int.toNat_natCast]
          omega
    · have hge : a = ln.length := by
        have : ¬ ((a : Int) < (ln.length : Int)) := fun z => c (decide_eq_true z)
        omega
      rw [hge, List.drop_length] at hc
      obtain rfl := calls_end hc
      have e : toldBy st [] = [] := rfl
      rw [e, List.append_nil] at hd
      rw [hd] at hf
      exact ⟨_, rfl, hQ fd H1 s1 hfd0 hf⟩
  · rintro σ H Q Q' hm ⟨v, h1, v2, h2, p, ys, h3, h4, i, j, h5, h6, k, h7, h8⟩
    exact ⟨v, h1, v2, h2, p, ys, h3, h4, i, j, h5, h6, k, h7, hm _ _ h8⟩
end Q
set_option Elab.async false
set_option linter.all false
set_option maxRecDepth 100000
set_option maxHeartbeats 4000000
namespace Q
open PySem PySem.Spec PyProof.Rows L2
open PySem.W (WData Codec OpenSpec)
/-! ### the row -/
/-- the row's walk, where the written part of the heap is only known to be there -/
theorem walk_there {r : OpenSpec} {k : Nat} {q : Program} {loose : List Str} {XP : (Str → Option Value) → Heap → Prop} {YP : World → Heap → Prop} {d : DefRec} {CX : CXT} {ps : List Str} {sp : PySem.W.Frag → Sp} (well : r.wellSaid = true) (few : r.args.length = ps.length) (room : Room k callerA)
    (def_ : ∀ (w : World) (mg : Str → Option Value) (fa : Addr) (h : Heap), YP w h → h.Ns mainGlobals mg → mg d.name = some (.ref fa) → ∃ K : PySem.W.Frag, K.In h ∧ ∃ fd, (∀ (s : Shared) (us : List Value), us.length = ps.length → BindsTo s fd ⟨us, []⟩ (ps.zip us)) ∧ ∀ base, FnOk r.prog w K mg base CX k fa fd ps (sp K))
    (keeps : ∀ (K : PySem.W.Frag) (H : Hp) (xs : List V) (a : Codec.denoteAll r.args), Codec.withinAll r.args a = true → Codec.app r.args r.asked a = true → DwAll K H xs (Codec.encAll r.args a) → sp K xs H (fun v H' => Dw K H' v (r.ret.enc (Codec.app r.args r.f a))) fun _ _ _ => False)
    (noX : ∀ (H : Hp) (s : Shared) (e : Value) (s' : Shared), CX [] H s (fun _ _ _ => False) e s' → False) : PySem.W.WalkOS q loose XP YP r d [] (fun f vs => PySem.call f vs) := by
  intro w t0 t1 mg mb gr says fa ob pm cd doc dV kV i1 i2 i3 i4 isFa noGens argv vals ads pre lay reads wells low
  have ⟨a, dec, ask⟩ := PySem.W.os_pre_some pre
  have ⟨enc, within⟩ := Codec.encAll_of_decAll r.args argv a dec
  subst enc
  have ⟨K, isIn, fd, binds, ok⟩ := def_ w mg fa _ says gr.T.g isFa
  have walked := spec_call (R := []) (cl := classAt t0.heap) (d0 := r.ret.enc (Codec.app r.args r.f a)) isIn gr.T.g gr.T.b gr.T.builtins gr.T.nolimit noGens wells (pl_encAll _ _) (layable_weight lay) room (fun base _ _ => ok base) binds ((encAll_len _ _).trans few)
    (fun H xs _ laid => keeps K H xs a within ask laid) fun H e s' => noX H t1 e s'
  refine PySem.W.enter_call (codeAny_mono walked fun out s' got => ?_)
  have ⟨u, as, isRet, there, old, os, bare⟩ := got
  subst isRet
  exact ⟨.inl ⟨u, _, as, rfl, fun _ => rfl, there, (OpenSpec.post_iff well within _ _).mpr rfl, fun z => Bool.noConfusion (show false = true from z)⟩, old, os, bare⟩
theorem ints_back {l : List Int} (h : ∀ x ∈ l, 0 ≤ x) : Lrx9.toInts (l.map Int.toNat) = l := by
  unfold Lrx9.toInts
  rw [List.map_map]
  conv => rhs; rw [← List.map_id l]
  exact List.map_congr_left fun x hx => Int.toNat_of_nonneg (h x hx)
theorem keeps_row (K : PySem.W.Frag) (H : Hp) (xs : List V) (a : Codec.denoteAll RowQ.args) (within : Codec.withinAll RowQ.args a = true) (ask : Codec.app RowQ.args RowQ.asked a = true) (laid : DwAll K H xs (Codec.encAll RowQ.args a)) :
    sp_answers K xs H (fun v H' => Dw K H' v (RowQ.ret.enc (Codec.app RowQ.args RowQ.f a))) fun _ _ _ => False := by
  obtain ⟨l, u⟩ := a
  have ask : PyLrx9.answers_asked l = true := ask
  have q : ((Codec.inLen 0 31700 l && l.all (Codec.inInt 0 4294967295)) && true) = true := within
  rw [Bool.and_true, Bool.and_eq_true] at q
  have big := (Codec.inNat_iff.mp q.1).2
  have pos : ∀ x ∈ l, 0 ≤ x := fun x hx => (Codec.inInt_iff.mp (List.all_eq_true.mp q.2 x hx)).1
  have back := ints_back pos
  cases laid with
  | cons h1 h2 =>
    cases h2
    cases h1 with
    | lst hs ha =>
      have e := ints_dw l _ ha
      subst e
      have e2 : l.map V.int = vN (l.map Int.toNat) := by
        conv => lhs; rw [← back]
        exact vI_vN _
      rw [e2] at hs
      refine ⟨_, rfl, _, l.map Int.toNat, rfl, hs, by rw [back]; exact ask, by rw [List.length_map]; exact big, fun b H' s nb eb => ?_⟩
      rw [back] at eb
      exact .lst (SqL.of eb) (dw_ints _)
end Q
set_option Elab.async false
set_option linter.all false
set_option maxRecDepth 100000
set_option maxHeartbeats 4000000
namespace Q
open PySem PySem.Spec PyProof.Rows L2
/-! ### the end -/
theorem call_row (d : DefRec) (hd : d.name = "answers") : PySem.W.WalkOS qv nmAll (PySem.W.XL qv []) hookA.says Rw d [] fun f vs => PySem.call f vs := by
  refine walk_there (k := 16) (CX := CX0) (ps := ["calls"]) (sp := sp_answers) well_row rfl ⟨rfl, by decide, by decide⟩ ?_ keeps_row (fun _ _ _ _ z => z)
  rintro w mg fa h ⟨K, KX, c⟩ G hmg
  have T : Txt w K mg := ⟨c, h, KX, G⟩
  rw [hd, T.g_answers] at hmg
  injection hmg with hmg
  injection hmg with hmg
  obtain ⟨fd, b, F⟩ := all_answers T
  rw [hmg] at F
  exact ⟨K, KX, fd, b, F⟩
end Q
open PySem PySem.W PyProof.Rows
set_option maxRecDepth 100000 in
set_option maxHeartbeats 8000000 in
theorem PySem.Challenge.cw_queuelanguage_s01_answers_holds : PySem.Challenge.rw_queuelanguage_s01_answers.Holds :=
  HeadRun.head_spec (H := Q.hookA) Q.obT_eq (by kernel_rfl) (fun s => by kernel_rfl) Q.run (by rfl) (by rfl) (by rfl) os_shapes Q.well_row (Bool.and_eq_true_iff.mpr ⟨Q.chain_row, Q.opens_row⟩) Q.bare_row Q.some_row (Q.call_row _ rfl)
#print axioms PySem.Challenge.cw_queuelanguage_s01_answers_holds
