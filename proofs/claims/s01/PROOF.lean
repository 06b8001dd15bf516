import PyProof.Rows.All
import Wide.All
import OpenK.AllK
import Wide.FinOn
import Open.SpecLaws
import KE.OsGo
import HandS.ForSpec
import HandS.Codes
import HandS.Comp
import HandS.Iter
import HandS.Walk
import HandS.Wide
import HandS.Style
import HandS.SortRule
import HandS.Deep
import HandS.SetFor
import HandS.ExcInit
import HandS.ExcField
import HandS.NoneIn
import HandS.CallSlots
import PySem.Challenge.RW_matchgraph_s01_answers
set_option Elab.async false
set_option linter.all false
-- part MK
namespace MG
/-! ## The reals, as Cauchy sequences of rationals -/
def IsC (f : Nat → Rat) : Prop := ∀ e : Rat, 0 < e → ∃ N : Nat, ∀ m n : Nat, N ≤ m → N ≤ n → f m - f n < e
def Nul (f : Nat → Rat) : Prop := ∀ e : Rat, 0 < e → ∃ N : Nat, ∀ n : Nat, N ≤ n → f n < e ∧ -e < f n
structure CS where
  f : Nat → Rat
  c : IsC f
theorem rat_small {B e : Rat} (hB : 0 < B) (he : 0 < e) : ∃ d : Rat, 0 < d ∧ B * d = e := by
  refine ⟨e / B, ?_, ?_⟩
  · rw [Rat.lt_div_iff hB]; grind
  · rw [Rat.mul_comm, Rat.div_mul_cancel (by grind)]
theorem mul_lt_abs {a B d e : Rat} (h1 : a < B) (h2 : -B < a) (h3 : d < e) (h4 : -e < d) : a * d < B * e := by
  have p1 : 0 < (B - a) * (e + d) := Rat.mul_pos (by grind) (by grind)
  have p2 : 0 < (B + a) * (e - d) := Rat.mul_pos (by grind) (by grind)
  grind
theorem IsC.bound {f : Nat → Rat} (h : IsC f) : ∃ B : Rat, 0 < B ∧ ∀ n, f n < B ∧ -B < f n := by
  obtain ⟨N, hN⟩ := h 1 (by decide)
  have key : ∀ k : Nat, ∃ B : Rat, 0 < B ∧ ∀ n, n < k → f n < B ∧ -B < f n := by
    intro k
    induction k with
    | zero => exact ⟨1, by decide, fun n hn => absurd hn (Nat.not_lt_zero _)⟩
    | succ k ih =>
      obtain ⟨B, hB, hb⟩ := ih
      by_cases c : 0 ≤ f k
      · refine ⟨B + f k + 1, by grind, fun n hn => ?_⟩
        rcases Nat.lt_succ_iff_lt_or_eq.mp hn with h1 | h1
        · have := hb n h1; constructor <;> grind
        · subst h1; constructor <;> grind
      · refine ⟨B - f k + 1, by grind, fun n hn => ?_⟩
        rcases Nat.lt_succ_iff_lt_or_eq.mp hn with h1 | h1
        · have := hb n h1; constructor <;> grind
        · subst h1; constructor <;> grind
  obtain ⟨B, hB, hb⟩ := key (N + 1)
  refine ⟨B + 1, by grind, fun n => ?_⟩
  by_cases c : n < N + 1
  · have := hb n c; constructor <;> grind
  · have h1 := hb N (by omega)
    have h2 := hN n N (by omega) (by omega)
    have h3 := hN N n (by omega) (by omega)
    constructor <;> grind
theorem IsC.const (q : Rat) : IsC (fun _ => q) := fun e he => ⟨0, fun _ _ _ _ => by grind⟩
theorem IsC.add {f g : Nat → Rat} (hf : IsC f) (hg : IsC g) : IsC (fun n => f n + g n) := fun e he => by
  obtain ⟨d, hd, e1⟩ := rat_small (B := 2) (by decide) he
  obtain ⟨N, hN⟩ := hf d hd
  obtain ⟨M, hM⟩ := hg d hd
  refine ⟨max N M, fun m n h1 h2 => ?_⟩
  have a1 := hN m n (by omega) (by omega)
  have a2 := hM m n (by omega) (by omega)
  grind
theorem IsC.neg {f : Nat → Rat} (hf : IsC f) : IsC (fun n => - f n) := fun e he => by
  obtain ⟨N, hN⟩ := hf e he
  exact ⟨N, fun m n h1 h2 => by have := hN n m h2 h1; grind⟩
theorem IsC.mul {f g : Nat → Rat} (hf : IsC f) (hg : IsC g) : IsC (fun n => f n * g n) := fun e he => by
  obtain ⟨B, hB, hb⟩ := hf.bound
  obtain ⟨C, hC, hc⟩ := hg.bound
  obtain ⟨d, hd, e1⟩ := rat_small (B := B + C) (by grind) he
  obtain ⟨N, hN⟩ := hf d hd
  obtain ⟨M, hM⟩ := hg d hd
  refine ⟨max N M, fun m n h1 h2 => ?_⟩
  have a1 := hN m n (by omega) (by omega)
  have a2 := hM m n (by omega) (by omega)
  have a3 := hN n m (by omega) (by omega)
  have a4 := hM n m (by omega) (by omega)
  have q1 := mul_lt_abs (a := f m) (d := g m - g n) (hb m).1 (hb m).2 a2 (by grind)
  have q2 := mul_lt_abs (a := g n) (d := f m - f n) (hc n).1 (hc n).2 a1 (by grind)
  grind
theorem Nul.add {f g : Nat → Rat} (hf : Nul f) (hg : Nul g) : Nul (fun n => f n + g n) := fun e he => by
  obtain ⟨d, hd, e1⟩ := rat_small (B := 2) (by decide) he
  obtain ⟨N, hN⟩ := hf d hd
  obtain ⟨M, hM⟩ := hg d hd
  refine ⟨max N M, fun n h1 => ?_⟩
  have a1 := hN n (by omega)
  have a2 := hM n (by omega)
  constructor <;> grind
theorem Nul.neg {f : Nat → Rat} (hf : Nul f) : Nul (fun n => - f n) := fun e he => by
  obtain ⟨N, hN⟩ := hf e he
  exact ⟨N, fun n h1 => by have := hN n h1; constructor <;> grind⟩
theorem Nul.mul {f g : Nat → Rat} (hf : IsC f) (hg : Nul g) : Nul (fun n => f n * g n) := fun e he => by
  obtain ⟨B, hB, hb⟩ := hf.bound
  obtain ⟨d, hd, e1⟩ := rat_small hB he
  obtain ⟨N, hN⟩ := hg d hd
  refine ⟨N, fun n h1 => ?_⟩
  have a1 := hN n h1
  have q1 := mul_lt_abs (hb n).1 (hb n).2 a1.1 a1.2
  have q2 := mul_lt_abs (a := - f n) (d := g n) (B := B) (by have := (hb n).2; grind) (by have := (hb n).1; grind) a1.1 a1.2
  constructor <;> grind
theorem Nul.zero : Nul (fun _ => 0) := fun e he => ⟨0, fun _ _ => by constructor <;> grind⟩
theorem Nul.congr {f g : Nat → Rat} (hf : Nul f) (h : ∀ n, g n = f n) : Nul g := fun e he => by
  obtain ⟨N, hN⟩ := hf e he
  exact ⟨N, fun n h1 => by rw [h n]; exact hN n h1⟩
instance kSet : Setoid CS where
  r a b := Nul (fun n => a.f n - b.f n)
  iseqv := {
    refl := fun a => Nul.zero.congr fun n => by grind
    symm := fun {a b} h => h.neg.congr fun n => by grind
    trans := fun {a b c} h1 h2 => (h1.add h2).congr fun n => by grind }
def K : Type := Quotient kSet
namespace K
def mk (a : CS) : K := Quotient.mk kSet a
theorem eq_of {a b : CS} (h : Nul (fun n => a.f n - b.f n)) : mk a = mk b := Quotient.sound h
theorem eq_pt {a b : CS} (h : ∀ n, a.f n = b.f n) : mk a = mk b := eq_of (Nul.zero.congr fun n => by rw [h n]; grind)
theorem to_nul {a b : CS} (h : mk a = mk b) : Nul (fun n => a.f n - b.f n) := Quotient.exact h
theorem ex (x : K) : ∃ a, x = mk a := by
  induction x using Quotient.ind with
  | _ a => exact ⟨a, rfl⟩
def ofQ (q : Rat) : K := mk ⟨fun _ => q, IsC.const q⟩
def add (x y : K) : K := Quotient.lift₂ (fun a b => mk ⟨fun n => a.f n + b.f n, a.c.add b.c⟩) (fun a b c d (h1 : Nul _) (h2 : Nul _) => eq_of ((h1.add h2).congr fun n => by show (a.f n + b.f n) - (c.f n + d.f n) = _; grind)) x y
def neg (x : K) : K := Quotient.lift (fun a => mk ⟨fun n => - a.f n, a.c.neg⟩) (fun a b (h1 : Nul _) => eq_of (h1.neg.congr fun n => by show (- a.f n) - (- b.f n) = _; grind)) x
def mul (x y : K) : K := Quotient.lift₂ (fun a b => mk ⟨fun n => a.f n * b.f n, a.c.mul b.c⟩) (fun a b c d (h1 : Nul _) (h2 : Nul _) => eq_of (((Nul.mul d.c h1).add (Nul.mul a.c h2)).congr fun n => by show (a.f n * b.f n) - (c.f n * d.f n) = _; grind)) x y
theorem add_mk (a b : CS) : add (mk a) (mk b) = mk ⟨fun n => a.f n + b.f n, a.c.add b.c⟩ := rfl
theorem neg_mk (a : CS) : neg (mk a) = mk ⟨fun n => - a.f n, a.c.neg⟩ := rfl
theorem mul_mk (a b : CS) : mul (mk a) (mk b) = mk ⟨fun n => a.f n * b.f n, a.c.mul b.c⟩ := rfl
def npow (x : K) : Nat → K
  | 0 => ofQ 1
  | n + 1 => mul (npow x n) x
instance : Add K := ⟨add⟩
instance : Mul K := ⟨mul⟩
instance : Neg K := ⟨neg⟩
instance : Sub K := ⟨fun x y => add x (neg y)⟩
instance : NatCast K := ⟨fun n => ofQ n⟩
instance : IntCast K := ⟨fun n => ofQ n⟩
instance (n : Nat) : OfNat K n := ⟨ofQ n⟩
instance : SMul Nat K := ⟨fun n x => ofQ n * x⟩
instance : SMul Int K := ⟨fun n x => ofQ n * x⟩
instance : HPow K Nat K := ⟨npow⟩
theorem zero_def : (0 : K) = ofQ 0 := rfl
theorem one_def : (1 : K) = ofQ 1 := rfl
theorem ofQ_add (p q : Rat) : ofQ (p + q) = ofQ p + ofQ q := rfl
theorem ofQ_mul (p q : Rat) : ofQ (p * q) = ofQ p * ofQ q := rfl
theorem ofQ_neg (p : Rat) : ofQ (-p) = - ofQ p := rfl
instance : Lean.Grind.CommRing K where
  add_zero x := by obtain ⟨a, rfl⟩ := ex x; exact eq_pt fun n => Rat.add_zero _
  add_comm x y := by obtain ⟨a, rfl⟩ := ex x; obtain ⟨b, rfl⟩ := ex y; exact eq_pt fun n => Rat.add_comm _ _
  add_assoc x y z := by obtain ⟨a, rfl⟩ := ex x; obtain ⟨b, rfl⟩ := ex y; obtain ⟨c, rfl⟩ := ex z; exact eq_pt fun n => Rat.add_assoc _ _ _
  mul_assoc x y z := by obtain ⟨a, rfl⟩ := ex x; obtain ⟨b, rfl⟩ := ex y; obtain ⟨c, rfl⟩ := ex z; exact eq_pt fun n => Rat.mul_assoc _ _ _
  mul_one x := by obtain ⟨a, rfl⟩ := ex x; exact eq_pt fun n => Rat.mul_one _
  one_mul x := by obtain ⟨a, rfl⟩ := ex x; exact eq_pt fun n => Rat.one_mul _
  right_distrib x y z := by obtain ⟨a, rfl⟩ := ex x; obtain ⟨b, rfl⟩ := ex y; obtain ⟨c, rfl⟩ := ex z; exact eq_pt fun n => Rat.add_mul _ _ _
  mul_zero x := by obtain ⟨a, rfl⟩ := ex x; exact eq_pt fun n => Rat.mul_zero _
  left_distrib x y z := by obtain ⟨a, rfl⟩ := ex x; obtain ⟨b, rfl⟩ := ex y; obtain ⟨c, rfl⟩ := ex z; exact eq_pt fun n => Rat.mul_add _ _ _
  zero_mul x := by obtain ⟨a, rfl⟩ := ex x; exact eq_pt fun n => Rat.zero_mul _
  mul_comm x y := by obtain ⟨a, rfl⟩ := ex x; obtain ⟨b, rfl⟩ := ex y; exact eq_pt fun n => Rat.mul_comm _ _
  pow_zero x := rfl
  pow_succ x n := rfl
  ofNat_succ n := by
    show ofQ ((n + 1 : Nat) : Rat) = ofQ n + ofQ 1
    rw [← ofQ_add, Rat.natCast_add]; rfl
  neg_add_cancel x := by obtain ⟨a, rfl⟩ := ex x; exact eq_pt fun n => Rat.neg_add_cancel _
  sub_eq_add_neg x y := rfl
  neg_zsmul i x := by
    show ofQ ((-i : Int) : Rat) * x = -(ofQ i * x)
    obtain ⟨a, rfl⟩ := ex x
    refine eq_pt fun n => ?_
    show ((-i : Int) : Rat) * a.f n = -((i : Rat) * a.f n)
    rw [Rat.intCast_neg, Rat.neg_mul]
  intCast_neg i := by
    show ofQ ((-i : Int) : Rat) = - ofQ i
    rw [Rat.intCast_neg]; rfl
/-! ### order -/
def PosS (f : Nat → Rat) : Prop := ∃ e : Rat, 0 < e ∧ ∃ N : Nat, ∀ n, N ≤ n → e < f n
theorem PosS.near {f g : Nat → Rat} (h : PosS f) (z : Nul (fun n => f n - g n)) : PosS g := by
  obtain ⟨e, he, N, hN⟩ := h
  obtain ⟨d, hd, e1⟩ := rat_small (B := 2) (by decide) he
  obtain ⟨M, hM⟩ := z d hd
  refine ⟨d, hd, max N M, fun n hn => ?_⟩
  have a1 := hN n (by omega)
  have a2 := hM n (by omega)
  grind
def Pos (x : K) : Prop := Quotient.lift (fun a : CS => PosS a.f) (fun a b (h : Nul _) => propext ⟨fun p => p.near h, fun p => p.near (h.neg.congr fun n => by grind)⟩) x
theorem pos_mk (a : CS) : Pos (mk a) = PosS a.f := rfl
theorem not_pos_zero : ¬ Pos (0 : K) := by
  rintro ⟨e, he, N, hN⟩
  have := hN N (Nat.le_refl _)
  have h2 : e < ((0 : Nat) : Rat) := this
  grind
theorem Pos.add {x y : K} (h1 : Pos x) (h2 : Pos y) : Pos (x + y) := by
  obtain ⟨a, rfl⟩ := ex x
  obtain ⟨b, rfl⟩ := ex y
  obtain ⟨e, he, N, hN⟩ := h1
  obtain ⟨d, hd, M, hM⟩ := h2
  refine ⟨e + d, by grind, max N M, fun n hn => ?_⟩
  have a1 := hN n (by omega)
  have a2 := hM n (by omega)
  show e + d < a.f n + b.f n
  grind
theorem Pos.mul {x y : K} (h1 : Pos x) (h2 : Pos y) : Pos (x * y) := by
  obtain ⟨a, rfl⟩ := ex x
  obtain ⟨b, rfl⟩ := ex y
  obtain ⟨e, he, N, hN⟩ := h1
  obtain ⟨d, hd, M, hM⟩ := h2
  refine ⟨e * d, Rat.mul_pos he hd, max N M, fun n hn => ?_⟩
  have a1 := hN n (by omega)
  have a2 := hM n (by omega)
  show e * d < a.f n * b.f n
  have p1 : 0 < (a.f n - e) * d := Rat.mul_pos (by grind) hd
  have p2 : 0 < (b.f n - d) * a.f n := Rat.mul_pos (by grind) (by grind)
  grind
theorem pos_or (x : K) : x = 0 ∨ Pos x ∨ Pos (-x) := by
  obtain ⟨a, rfl⟩ := ex x
  by_cases p : PosS a.f
  · exact .inr (.inl p)
  by_cases q : PosS (fun n => - a.f n)
  · exact .inr (.inr q)
  refine .inl (eq_of fun e he => ?_)
  obtain ⟨d, hd, e1⟩ := rat_small (B := 2) (by decide) he
  obtain ⟨N, hN⟩ := a.c d hd
  refine ⟨N, fun n hn => ?_⟩
  show a.f n - ((0 : Nat) : Rat) < e ∧ -e < a.f n - ((0 : Nat) : Rat)
  constructor
  · refine Classical.byContradiction fun c => p ⟨d, hd, N, fun m hm => ?_⟩
    have := hN n m hn hm
    grind
  · refine Classical.byContradiction fun c => q ⟨d, hd, N, fun m hm => ?_⟩
    have := hN m n hm hn
    show d < - a.f m
    grind
instance : LT K := ⟨fun x y => Pos (y - x)⟩
instance : LE K := ⟨fun x y => ¬ Pos (x - y)⟩
theorem lt_def {x y : K} : x < y ↔ Pos (y - x) := Iff.rfl
theorem le_def {x y : K} : x ≤ y ↔ ¬ Pos (x - y) := Iff.rfl
theorem not_both {x : K} (h1 : Pos x) (h2 : Pos (-x)) : False := by
  have := h1.add h2
  rw [show x + -x = 0 by grind] at this
  exact not_pos_zero this
theorem le_iff {x y : K} : x ≤ y ↔ y - x = 0 ∨ Pos (y - x) := by
  constructor
  · intro h
    rcases pos_or (y - x) with c | c | c
    · exact .inl c
    · exact .inr c
    · exact absurd (show Pos (x - y) by rw [show x - y = -(y - x) by grind]; exact c) h
  · rintro (c | c) p
    · rw [show x - y = -(y - x) by grind, c, show -(0 : K) = 0 by grind] at p
      exact not_pos_zero p
    · exact not_both c (by rw [show -(y - x) = x - y by grind]; exact p)
instance : Std.IsLinearOrder K where
  le_refl x := le_iff.mpr (.inl (by grind))
  le_trans x y z h1 h2 := by
    rw [le_iff] at *
    rcases h1 with h1 | h1 <;> rcases h2 with h2 | h2
    · exact .inl (by grind)
    · exact .inr (by rw [show z - x = z - y by grind]; exact h2)
    · exact .inr (by rw [show z - x = y - x by grind]; exact h1)
    · exact .inr (by rw [show z - x = (y - x) + (z - y) by grind]; exact h1.add h2)
  le_antisymm x y h1 h2 := by
    rw [le_iff] at *
    rcases h1 with h1 | h1
    · grind
    · rcases h2 with h2 | h2
      · grind
      · exact (not_both h1 (by rw [show -(y - x) = x - y by grind]; exact h2)).elim
  le_total x y := by
    rw [le_iff, le_iff]
    rcases pos_or (y - x) with c | c | c
    · exact .inl (.inl c)
    · exact .inl (.inr c)
    · exact .inr (.inr (by rw [show x - y = -(y - x) by grind]; exact c))
instance : Std.LawfulOrderLT K where
  lt_iff x y := by
    rw [lt_def, le_iff, le_def]
    constructor
    · exact fun h => ⟨.inr h, fun q => q h⟩
    · exact fun h => Classical.byContradiction fun q => h.2 q
instance : Lean.Grind.OrderedAdd K where
  add_le_left_iff {a b} c := by
    rw [le_def, le_def, show a + c - (b + c) = a - b by grind]
theorem pos_iff {x : K} : 0 < x ↔ Pos x := by rw [lt_def, show x - 0 = x by grind]
instance : Lean.Grind.OrderedRing K where
  zero_lt_one := pos_iff.mpr ⟨(1 : Rat) / 2, by grind, 0, fun n _ => by show (1 : Rat) / 2 < (1 : Rat); grind⟩
  mul_lt_mul_of_pos_left {a b c} h1 h2 := by
    rw [lt_def, show c * b - c * a = c * (b - a) by grind]
    exact (pos_iff.mp h2).mul h1
  mul_lt_mul_of_pos_right {a b c} h1 h2 := by
    rw [lt_def, show b * c - a * c = c * (b - a) by grind]
    exact (pos_iff.mp h2).mul h1
theorem mul_pos {a b : K} (h1 : 0 < a) (h2 : 0 < b) : 0 < a * b := pos_iff.mpr ((pos_iff.mp h1).mul (pos_iff.mp h2))
theorem ofQ_pos {q : Rat} (h : 0 < q) : (0 : K) < ofQ q := by
  refine pos_iff.mpr ?_
  obtain ⟨d, hd, e1⟩ := rat_small (B := 2) (by decide) h
  exact ⟨d, hd, 0, fun n _ => by show d < q; grind⟩
theorem ofQ_sub (p q : Rat) : ofQ (p - q) = ofQ p - ofQ q := by
  rw [Rat.sub_eq_add_neg, ofQ_add, ofQ_neg]; grind
theorem ofQ_lt {p q : Rat} : ofQ p < ofQ q ↔ p < q := by
  constructor
  · intro h
    refine Classical.byContradiction fun c => ?_
    rcases Rat.le_iff_lt_or_eq.mp (Rat.not_lt.mp c) with c | c
    · have := ofQ_pos (q := p - q) (by grind)
      rw [ofQ_sub] at this
      grind
    · rw [c] at h; grind
  · intro h
    have := ofQ_pos (q := q - p) (by grind)
    rw [ofQ_sub] at this
    grind
theorem ofQ_inj {p q : Rat} (h : ofQ p = ofQ q) : p = q := by
  refine Classical.byContradiction fun c => ?_
  rcases Rat.le_total (a := p) (b := q) with h1 | h1
  · have := ofQ_lt.mpr (Rat.lt_of_le_of_ne h1 c); grind
  · have := ofQ_lt.mpr (Rat.lt_of_le_of_ne h1 (Ne.symm c)); grind
theorem ofQ_le {p q : Rat} : ofQ p ≤ ofQ q ↔ p ≤ q := by
  have := ofQ_lt (p := q) (q := p)
  rw [← Rat.not_lt]
  grind
theorem ofQ_nat (n : Nat) : ofQ (n : Rat) = (n : K) := rfl
theorem ofQ_int (n : Int) : ofQ (n : Rat) = (n : K) := rfl
/-- Archimedes, and closeness to rationals -/
theorem near_rat (x : K) {e : Rat} (he : 0 < e) : ∃ q : Rat, ofQ q - ofQ e < x ∧ x < ofQ q + ofQ e := by
  obtain ⟨a, rfl⟩ := ex x
  obtain ⟨d, hd, e1⟩ := rat_small (B := 2) (by decide) he
  obtain ⟨N, hN⟩ := a.c d hd
  refine ⟨a.f N, ?_, ?_⟩
  · rw [lt_def]
    refine ⟨d / 2, by grind, N, fun n hn => ?_⟩
    have := hN N n (Nat.le_refl _) hn
    show d / 2 < a.f n + -(a.f N + - e)
    grind
  · rw [lt_def]
    refine ⟨d / 2, by grind, N, fun n hn => ?_⟩
    have := hN n N hn (Nat.le_refl _)
    show d / 2 < (a.f N + e) + - a.f n
    grind
end K
end MG

-- part MI
namespace MG
open K
/-! ## Polynomials over K, the intermediate value theorem -/
def ev : List K → K → K
  | [], _ => 0
  | c :: p, x => c + x * ev p x
theorem mul_nn {a b : K} (h1 : 0 ≤ a) (h2 : 0 ≤ b) : 0 ≤ a * b := by
  rcases Classical.em (a = 0) with c | c
  · rw [c]; grind
  rcases Classical.em (b = 0) with d | d
  · rw [d]; grind
  have := K.mul_pos (a := a) (b := b) (by grind) (by grind)
  grind
theorem mul_le_abs {a B d e : K} (h1 : a ≤ B) (h2 : -B ≤ a) (h3 : d ≤ e) (h4 : -e ≤ d) : a * d ≤ B * e ∧ -(B * e) ≤ a * d := by
  have p1 := mul_nn (a := B - a) (b := e + d) (by grind) (by grind)
  have p2 := mul_nn (a := B + a) (b := e - d) (by grind) (by grind)
  have p3 := mul_nn (a := B - a) (b := e - d) (by grind) (by grind)
  have p4 := mul_nn (a := B + a) (b := e + d) (by grind) (by grind)
  have q : 0 + (1 + 1) * (B * e - a * d) = (B - a) * (e + d) + (B + a) * (e - d) := by grind
  have q2 : 0 + (1 + 1) * (B * e + a * d) = (B - a) * (e - d) + (B + a) * (e + d) := by grind
  constructor <;> grind
theorem pos_rat {x : K} (h : 0 < x) : ∃ q : Rat, 0 < q ∧ ofQ q < x := by
  rw [K.pos_iff] at h
  obtain ⟨a, rfl⟩ := ex x
  obtain ⟨e, he, N, hN⟩ := h
  obtain ⟨d, hd, e1⟩ := rat_small (B := 2) (by decide) he
  refine ⟨d, hd, ?_⟩
  rw [lt_def]
  refine ⟨d, hd, N, fun n hn => ?_⟩
  have := hN n hn
  show d < a.f n + - d
  grind
theorem le_rat (x : K) : ∃ q : Rat, 0 < q ∧ x < ofQ q := by
  obtain ⟨q, _, h2⟩ := near_rat x (e := 1) (by decide)
  by_cases c : 0 ≤ q
  · exact ⟨q + 1, by grind, by rw [ofQ_add]; exact h2⟩
  · refine ⟨1, by decide, ?_⟩
    have h3 : ofQ q < ofQ 0 := ofQ_lt.mpr (by grind)
    have h4 : ofQ 0 = (0 : K) := rfl
    grind
theorem le_zero_of {x : K} (h : ∀ q : Rat, 0 < q → x ≤ ofQ q) : x ≤ 0 := by
  refine Classical.byContradiction fun c => ?_
  obtain ⟨q, hq, h2⟩ := pos_rat (x := x) (by grind)
  have := h q hq
  grind
theorem mk_le {a : CS} {q : Rat} {N : Nat} (h : ∀ n, N ≤ n → a.f n ≤ q) : mk a ≤ ofQ q := by
  rw [le_def]
  rintro ⟨e, he, M, hM⟩
  have h1 := hM (max N M) (by omega)
  have h2 := h (max N M) (by omega)
  have h3 : e < a.f (max N M) + - q := h1
  grind
theorem le_mk {a : CS} {q : Rat} {N : Nat} (h : ∀ n, N ≤ n → q ≤ a.f n) : ofQ q ≤ mk a := by
  rw [le_def]
  rintro ⟨e, he, M, hM⟩
  have h1 := hM (max N M) (by omega)
  have h2 := h (max N M) (by omega)
  have h3 : e < q + - a.f (max N M) := h1
  grind
/-- halves -/
def hv : Nat → Rat
  | 0 => 1
  | n + 1 => hv n * (1 / 2)
theorem hv_pos : ∀ n, 0 < hv n
  | 0 => by decide
  | n + 1 => Rat.mul_pos (hv_pos n) (by grind)
theorem hv_le : ∀ n : Nat, ((n : Rat) + 1) * hv n ≤ 1
  | 0 => by
    show (((0 : Nat) : Rat) + 1) * 1 ≤ 1
    rw [show ((0 : Nat) : Rat) = 0 from rfl]
    grind
  | n + 1 => by
    have h := hv_le n
    have p := hv_pos n
    have q : (0 : Rat) ≤ (n : Rat) * hv n := Rat.mul_nonneg Rat.natCast_nonneg (Rat.le_of_lt p)
    show (((n + 1 : Nat) : Rat) + 1) * (hv n * (1 / 2)) ≤ 1
    rw [Rat.natCast_add]
    grind
theorem hv_anti {n m : Nat} (h : n ≤ m) : hv m ≤ hv n := by
  induction m with
  | zero => rw [show n = 0 by omega]; grind
  | succ m ih =>
    rcases Nat.lt_or_eq_of_le h with c | c
    · have := ih (by omega)
      have := hv_pos m
      show hv m * (1 / 2) ≤ hv n
      grind
    · rw [c]; grind
theorem hv_small {C e : Rat} (_hC : 0 < C) (he : 0 < e) : ∃ N : Nat, ∀ n, N ≤ n → C * hv n < e := by
  refine ⟨((C / e).floor + 1).toNat, fun n hn => ?_⟩
  have h1 := Rat.lt_floor_add_one (C / e)
  have h2 : (((C / e).floor + 1 : Int) : Rat) ≤ (n : Rat) := by
    rw [← Rat.intCast_natCast, Rat.intCast_le_intCast]; omega
  have h3 : C / e < (n : Rat) := by grind
  rw [Rat.div_lt_iff he] at h3
  have p := hv_pos n
  have h4 := hv_le n
  have h5 := Rat.mul_pos (a := (n : Rat) * e - C) (b := hv n) (by grind) p
  have h6 : 0 ≤ e * (1 - ((n : Rat) + 1) * hv n) := Rat.mul_nonneg (by grind) (by grind)
  have h7 := Rat.mul_pos he p
  grind
theorem ev_lip (R : Rat) (hR : 0 < R) : ∀ p : List K, ∃ M B : Rat, 0 < M ∧ 0 < B ∧ (∀ x : K, -ofQ R ≤ x → x ≤ ofQ R → -ofQ B ≤ ev p x ∧ ev p x ≤ ofQ B) ∧
    ∀ x y d : K, -ofQ R ≤ x → x ≤ ofQ R → -ofQ R ≤ y → y ≤ ofQ R → -d ≤ x - y → x - y ≤ d → -(ofQ M * d) ≤ ev p x - ev p y ∧ ev p x - ev p y ≤ ofQ M * d
  | [] => ⟨1, 1, by decide, by decide, fun x h1 h2 => by
      have := ofQ_pos (q := 1) (by decide)
      show -ofQ 1 ≤ 0 ∧ 0 ≤ ofQ 1
      constructor <;> grind, fun x y d _ _ _ _ h1 h2 => by
      show -(1 * d) ≤ 0 - 0 ∧ (0 : K) - 0 ≤ 1 * d
      constructor <;> grind⟩
  | c :: p => by
    obtain ⟨M, B, hM, hB, hb, hl⟩ := ev_lip R hR p
    obtain ⟨C, hC, hc⟩ := le_rat c
    obtain ⟨C', hC', hc'⟩ := le_rat (-c)
    have pR := ofQ_pos hR
    have pB := ofQ_pos hB
    have pM := ofQ_pos hM
    refine ⟨R * M + B, C + C' + R * B, ?_, ?_, fun x h1 h2 => ?_, fun x y d h1 h2 h3 h4 h5 h6 => ?_⟩
    · have := Rat.mul_pos hR hM; grind
    · have := Rat.mul_pos hR hB; grind
    · have e := hb x h1 h2
      have m := mul_le_abs h2 h1 e.2 e.1
      have pC := ofQ_pos hC
      have pC' := ofQ_pos hC'
      rw [ofQ_add, ofQ_add, ofQ_mul]
      show -(ofQ C + ofQ C' + ofQ R * ofQ B) ≤ c + x * ev p x ∧ c + x * ev p x ≤ ofQ C + ofQ C' + ofQ R * ofQ B
      constructor <;> grind
    · have e := hl x y d h1 h2 h3 h4 h5 h6
      have m1 := mul_le_abs h2 h1 e.2 e.1
      have b := hb y h3 h4
      have m2 := mul_le_abs b.2 b.1 h6 h5
      rw [ofQ_add, ofQ_mul]
      show -((ofQ R * ofQ M + ofQ B) * d) ≤ (c + x * ev p x) - (c + y * ev p y) ∧ (c + x * ev p x) - (c + y * ev p y) ≤ (ofQ R * ofQ M + ofQ B) * d
      have q : (c + x * ev p x) - (c + y * ev p y) = x * (ev p x - ev p y) + ev p y * (x - y) := by grind
      rw [q]
      have q2 : (ofQ R * ofQ M + ofQ B) * d = ofQ R * (ofQ M * d) + ofQ B * d := by grind
      rw [q2]
      constructor <;> grind
open Classical in
noncomputable def bis (p : List K) (u v : K) : Nat → K × K
  | 0 => (u, v)
  | n + 1 =>
    let ab := bis p u v n
    let m := (ab.1 + ab.2) * ofQ (1 / 2)
    if ev p m < 0 then (m, ab.2) else (ab.1, m)
theorem half_two (x : K) : x * ofQ (1 / 2) + x * ofQ (1 / 2) = x := by
  have : ofQ (1 / 2) + ofQ (1 / 2) = (1 : K) := by
    rw [← ofQ_add]
    show ofQ (1 / 2 + 1 / 2) = ofQ 1
    congr 1
    grind
  grind
theorem bis_inv {p : List K} {u v : K} (huv : u ≤ v) (hu : ev p u < 0) (hv0 : 0 ≤ ev p v) : ∀ n, ev p (bis p u v n).1 < 0 ∧ 0 ≤ ev p (bis p u v n).2 ∧ u ≤ (bis p u v n).1 ∧ (bis p u v n).2 ≤ v ∧ (bis p u v n).1 ≤ (bis p u v n).2 ∧ (bis p u v n).2 - (bis p u v n).1 = (v - u) * ofQ (hv n)
  | 0 => ⟨hu, hv0, by show u ≤ u; grind, by show v ≤ v; grind, huv, by
      show v - u = (v - u) * ofQ 1
      have : ofQ 1 = (1 : K) := rfl
      grind⟩
  | n + 1 => by
    obtain ⟨h1, h2, h3, h4, h5, h6⟩ := bis_inv huv hu hv0 n
    have e : ofQ (hv (n + 1)) = ofQ (hv n) * ofQ (1 / 2) := ofQ_mul _ _
    rw [e]
    have t1 := half_two ((bis p u v n).1)
    have t2 := half_two ((bis p u v n).2)
    show _
    unfold bis
    by_cases c : ev p (((bis p u v n).1 + (bis p u v n).2) * ofQ (1 / 2)) < 0
    · simp only [c, if_true]
      refine ⟨trivial, h2, ?_, h4, ?_, ?_⟩ <;> grind
    · simp only [c, if_false]
      refine ⟨h1, ?_, h3, ?_, ?_, ?_⟩ <;> grind
theorem bis_mono {p : List K} {u v : K} (huv : u ≤ v) (hu : ev p u < 0) (hv0 : 0 ≤ ev p v) (n : Nat) : ∀ k, (bis p u v n).1 ≤ (bis p u v (n + k)).1 ∧ (bis p u v (n + k)).2 ≤ (bis p u v n).2
  | 0 => by simp only [Nat.add_zero]; constructor <;> grind
  | k + 1 => by
    have ih := bis_mono huv hu hv0 n k
    have i := bis_inv huv hu hv0 (n + k)
    have t1 := half_two ((bis p u v (n + k)).1)
    have t2 := half_two ((bis p u v (n + k)).2)
    rw [← Nat.add_assoc, bis]
    by_cases c : ev p (((bis p u v (n + k)).1 + (bis p u v (n + k)).2) * ofQ (1 / 2)) < 0
    · simp only [c, if_true]
      constructor <;> grind
    · simp only [c, if_false]
      constructor <;> grind
theorem ivt {p : List K} {u v : K} (huv : u < v) (hu : ev p u < 0) (hv0 : 0 < ev p v) : ∃ z, u < z ∧ z < v ∧ ev p z = 0 := by
  have inv := bis_inv (p := p) (u := u) (v := v) (by grind) hu (by grind)
  have mono := bis_mono (p := p) (u := u) (v := v) (by grind) hu (by grind)
  obtain ⟨C, hC, hc⟩ := le_rat (v - u)
  have cq : ∀ n, ∃ q : Rat, ofQ q - ofQ (hv n) < (bis p u v n).1 ∧ (bis p u v n).1 < ofQ q + ofQ (hv n) := fun n => near_rat _ (hv_pos n)
  let q : Nat → Rat := fun n => Classical.choose (cq n)
  have hq : ∀ n, ofQ (q n) - ofQ (hv n) < (bis p u v n).1 ∧ (bis p u v n).1 < ofQ (q n) + ofQ (hv n) := fun n => Classical.choose_spec (cq n)
  have close : ∀ n m, n ≤ m → q m - q n ≤ (C + 2) * hv n ∧ -((C + 2) * hv n) ≤ q m - q n := by
    intro n m h
    obtain ⟨k, rfl⟩ := Nat.exists_eq_add_of_le h
    have a := hq n
    have b := hq (n + k)
    have i := inv n
    have j := inv (n + k)
    have mo := mono n k
    have an := ofQ_le.mpr (hv_anti (Nat.le_add_right n k))
    have w : (v - u) * ofQ (hv n) ≤ ofQ C * ofQ (hv n) := by
      have := mul_nn (a := ofQ C - (v - u)) (b := ofQ (hv n)) (by grind) (by have := ofQ_pos (hv_pos n); grind)
      grind
    have s1 : ofQ (q (n + k) - q n) ≤ ofQ ((C + 2) * hv n) := by
      rw [ofQ_sub, show (C + 2) * hv n = C * hv n + (hv n + hv n) by grind, ofQ_add, ofQ_mul, ofQ_add]
      grind
    have s2 : ofQ (-((C + 2) * hv n)) ≤ ofQ (q (n + k) - q n) := by
      rw [ofQ_sub, ofQ_neg, show (C + 2) * hv n = C * hv n + (hv n + hv n) by grind, ofQ_add, ofQ_mul, ofQ_add]
      grind
    exact ⟨ofQ_le.mp s1, ofQ_le.mp s2⟩
  have cau : IsC q := fun e he => by
    obtain ⟨d, hd, e1⟩ := rat_small (B := 2) (by decide) he
    obtain ⟨N, hN⟩ := hv_small (C := C + 2) (by grind) hd
    refine ⟨N, fun m n h1 h2 => ?_⟩
    have a := close N m h1
    have b := close N n h2
    have c := hN N (Nat.le_refl _)
    grind
  let z : K := mk ⟨q, cau⟩
  have zq : ∀ n, ofQ (q n) - ofQ ((C + 2) * hv n) ≤ z ∧ z ≤ ofQ (q n) + ofQ ((C + 2) * hv n) := fun n => by
    rw [← ofQ_add, ← ofQ_sub]
    refine ⟨le_mk (N := n) fun m h => ?_, mk_le (N := n) fun m h => ?_⟩
    · have := close n m h; show q n - (C + 2) * hv n ≤ q m; grind
    · have := close n m h; show q m ≤ q n + (C + 2) * hv n; grind
  -- distance to both ends
  let D : Rat := C + C + 4
  have hD : 0 < D := by show 0 < C + C + 4; grind
  have da : ∀ n, -ofQ (D * hv n) ≤ z - (bis p u v n).1 ∧ z - (bis p u v n).1 ≤ ofQ (D * hv n) ∧ -ofQ (D * hv n) ≤ z - (bis p u v n).2 ∧ z - (bis p u v n).2 ≤ ofQ (D * hv n) := fun n => by
    have a := hq n
    have b := zq n
    have i := inv n
    have w : (v - u) * ofQ (hv n) ≤ ofQ C * ofQ (hv n) := by
      have := mul_nn (a := ofQ C - (v - u)) (b := ofQ (hv n)) (by grind) (by have := ofQ_pos (hv_pos n); grind)
      grind
    have pp := ofQ_pos (hv_pos n)
    have pc := ofQ_pos (Rat.mul_pos hC (hv_pos n))
    rw [ofQ_mul] at pc
    rw [show (C + 2) * hv n = C * hv n + (hv n + hv n) by grind, ofQ_add, ofQ_mul, ofQ_add] at b
    have e : ofQ (D * hv n) = ofQ C * ofQ (hv n) + ofQ C * ofQ (hv n) + (ofQ (hv n) + ofQ (hv n) + ofQ (hv n) + ofQ (hv n)) := by
      rw [show D * hv n = C * hv n + C * hv n + (hv n + hv n + hv n + hv n) by show (C + C + 4) * hv n = _; grind]
      rw [ofQ_add, ofQ_add, ofQ_add, ofQ_add, ofQ_add, ofQ_mul]
    rw [e]
    refine ⟨?_, ?_, ?_, ?_⟩ <;> grind
  have small : ∀ e : Rat, 0 < e → ∃ n, ofQ (D * hv n) ≤ ofQ e := fun e he => by
    obtain ⟨N, hN⟩ := hv_small hD he
    exact ⟨N, ofQ_le.mpr (Rat.le_of_lt (hN N (Nat.le_refl _)))⟩
  have zu : u ≤ z := by
    have := le_zero_of (x := u - z) fun e he => by
      obtain ⟨n, hn⟩ := small e he
      have := da n
      have := inv n
      grind
    grind
  have zv : z ≤ v := by
    have := le_zero_of (x := z - v) fun e he => by
      obtain ⟨n, hn⟩ := small e he
      have := da n
      have := inv n
      grind
    grind
  -- a box
  obtain ⟨R1, hR1, r1⟩ := le_rat v
  obtain ⟨R2, hR2, r2⟩ := le_rat (-u)
  have pR1 := ofQ_pos hR1
  have pR2 := ofQ_pos hR2
  obtain ⟨M, B, hM, hB, hb, hl⟩ := ev_lip (R1 + R2) (by grind) p
  have eR := ofQ_add R1 R2
  have f0 : ev p z ≤ 0 := le_zero_of fun e he => by
    obtain ⟨d, hd, e1⟩ := rat_small hM he
    obtain ⟨n, hn⟩ := small d hd
    have a := da n
    have i := inv n
    have l := hl z (bis p u v n).1 (ofQ d) (by grind) (by grind) (by grind) (by grind) (by grind) (by grind)
    rw [← ofQ_mul, e1] at l
    grind
  have f1 : 0 ≤ ev p z := by
    have := le_zero_of (x := - ev p z) fun e he => by
      obtain ⟨d, hd, e1⟩ := rat_small hM he
      obtain ⟨n, hn⟩ := small d hd
      have a := da n
      have i := inv n
      have l := hl z (bis p u v n).2 (ofQ d) (by grind) (by grind) (by grind) (by grind) (by grind) (by grind)
      rw [← ofQ_mul, e1] at l
      grind
    grind
  have f : ev p z = 0 := by grind
  refine ⟨z, ?_, ?_, f⟩
  · rcases Classical.em (u = z) with c | c
    · rw [c] at hu; grind
    · grind
  · rcases Classical.em (z = v) with c | c
    · rw [← c] at hv0; grind
    · grind
end MG

-- part MP
namespace MG
open K
noncomputable instance : DecidableEq K := fun _ _ => Classical.propDecidable _
noncomputable instance : DecidableLT K := fun _ _ => Classical.propDecidable _
noncomputable instance : DecidableLE K := fun _ _ => Classical.propDecidable _
/-! ## Polynomials over K as lists -/
def cf (p : List K) (i : Nat) : K := p.getD i 0
theorem cf_nil (i : Nat) : cf [] i = 0 := rfl
theorem cf_zero (c : K) (p : List K) : cf (c :: p) 0 = c := rfl
theorem cf_succ (c : K) (p : List K) (i : Nat) : cf (c :: p) (i + 1) = cf p i := by simp [cf]
theorem cf_big {p : List K} {i : Nat} (h : p.length ≤ i) : cf p i = 0 := by
  simp [cf, List.getD_eq_getElem?_getD, List.getElem?_eq_none h]
def addL : List K → List K → List K
  | [], q => q
  | a :: p, [] => a :: p
  | a :: p, b :: q => (a + b) :: addL p q
def smulL (c : K) : List K → List K
  | [] => []
  | a :: p => c * a :: smulL c p
def mulL : List K → List K → List K
  | [], _ => []
  | a :: p, q => addL (smulL a q) (0 :: mulL p q)
def subL (p q : List K) : List K := addL p (smulL (-1) q)
theorem ev_add : ∀ (p q : List K) (x : K), ev (addL p q) x = ev p x + ev q x
  | [], q, x => by simp only [addL, ev]; grind
  | a :: p, [], x => by simp only [addL, ev]; grind
  | a :: p, b :: q, x => by simp only [addL, ev, ev_add p q x]; grind
theorem ev_smul (c : K) : ∀ (p : List K) (x : K), ev (smulL c p) x = c * ev p x
  | [], x => by simp only [smulL, ev]; grind
  | a :: p, x => by simp only [smulL, ev, ev_smul c p x]; grind
theorem ev_mul : ∀ (p q : List K) (x : K), ev (mulL p q) x = ev p x * ev q x
  | [], q, x => by simp only [mulL, ev]; grind
  | a :: p, q, x => by simp only [mulL, ev, ev_add, ev_smul, ev_mul p q x]; grind
theorem ev_sub (p q : List K) (x : K) : ev (subL p q) x = ev p x - ev q x := by
  simp only [subL, ev_add, ev_smul]; grind
theorem cf_add : ∀ (p q : List K) (i : Nat), cf (addL p q) i = cf p i + cf q i
  | [], q, i => by simp only [addL, cf_nil]; grind
  | a :: p, [], i => by simp only [addL, cf_nil]; grind
  | a :: p, b :: q, 0 => by simp only [addL, cf_zero]
  | a :: p, b :: q, i + 1 => by simp only [addL, cf_succ, cf_add p q i]
theorem cf_smul (c : K) : ∀ (p : List K) (i : Nat), cf (smulL c p) i = c * cf p i
  | [], i => by simp only [smulL, cf_nil]; grind
  | a :: p, 0 => by simp only [smulL, cf_zero]
  | a :: p, i + 1 => by simp only [smulL, cf_succ, cf_smul c p i]
theorem cf_sub (p q : List K) (i : Nat) : cf (subL p q) i = cf p i - cf q i := by
  simp only [subL, cf_add, cf_smul]; grind
theorem len_add : ∀ (p q : List K), (addL p q).length = max p.length q.length
  | [], q => by simp [addL]
  | a :: p, [] => by simp [addL]
  | a :: p, b :: q => by simp only [addL, List.length_cons, len_add p q]; omega
theorem len_smul (c : K) : ∀ (p : List K), (smulL c p).length = p.length
  | [] => rfl
  | a :: p => by simp only [smulL, List.length_cons, len_smul c p]
theorem len_sub (p q : List K) : (subL p q).length = max p.length q.length := by
  simp only [subL, len_add, len_smul]
/-- vanishing off a point -/
theorem ev_at_of_ne {p : List K} {a : K} (h : ∀ x, x ≠ a → ev p x = 0) : ev p a = 0 := by
  obtain ⟨R1, hR1, r1⟩ := le_rat a
  obtain ⟨R2, hR2, r2⟩ := le_rat (-a)
  have pR1 := ofQ_pos hR1
  have pR2 := ofQ_pos hR2
  obtain ⟨M, B, hM, hB, hb, hl⟩ := ev_lip (R1 + R2 + 1) (by grind) p
  have one : ofQ 1 = (1 : K) := rfl
  have eR : ofQ (R1 + R2 + 1) = ofQ R1 + ofQ R2 + 1 := by rw [ofQ_add, ofQ_add, one]
  have key : ∀ e : Rat, 0 < e → - ofQ e ≤ ev p a ∧ ev p a ≤ ofQ e := by
    intro e he
    obtain ⟨d0, hd0, e0⟩ := rat_small hM he
    obtain ⟨d, hd, dd, d1⟩ : ∃ d : Rat, 0 < d ∧ d ≤ d0 ∧ d ≤ 1 := by
      by_cases c : d0 ≤ 1
      · exact ⟨d0, hd0, by grind, c⟩
      · exact ⟨1, by decide, by grind, by grind⟩
    have k1 := ofQ_pos hd
    have k2 := ofQ_le.mpr d1
    rw [one] at k2
    have l := hl a (a + ofQ d) (ofQ d) (by grind) (by grind) (by grind) (by grind) (by grind) (by grind)
    rw [h (a + ofQ d) (by grind), ← ofQ_mul] at l
    have m : ofQ (M * d) ≤ ofQ e := ofQ_le.mpr (by
      have := Rat.mul_le_mul_of_nonneg_left dd (Rat.le_of_lt hM); grind)
    grind
  have a1 := le_zero_of fun e he => (key e he).2
  have a2 := le_zero_of (x := - ev p a) fun e he => by have := (key e he).1; grind
  grind
theorem mul_eq_zero {a b : K} (h : a * b = 0) : a = 0 ∨ b = 0 := by
  rcases Classical.em (a = 0) with c | c
  · exact .inl c
  refine .inr (Classical.byContradiction fun d => ?_)
  rcases Classical.em (0 < a) with p | p <;> rcases Classical.em (0 < b) with q | q
  · have := K.mul_pos p q; grind
  · have := K.mul_pos (a := a) (b := -b) p (by grind); grind
  · have := K.mul_pos (a := -a) (b := b) (by grind) q; grind
  · have := K.mul_pos (a := -a) (b := -b) (by grind) (by grind); grind
theorem all_zero : ∀ {p : List K}, (∀ x, ev p x = 0) → ∀ i, cf p i = 0
  | [], _, i => rfl
  | c :: p, h, i => by
    have c0 : c = 0 := by
      have := h 0
      simp only [ev] at this
      grind
    have hp : ∀ x, x ≠ 0 → ev p x = 0 := fun x hx => by
      have := h x
      simp only [ev] at this
      rcases mul_eq_zero (a := x) (b := ev p x) (by grind) with q | q
      · exact absurd q hx
      · exact q
    have h0 := ev_at_of_ne hp
    have ha : ∀ x, ev p x = 0 := fun x => by
      rcases Classical.em (x = 0) with q | q
      · rw [q]; exact h0
      · exact hp x q
    cases i with
    | zero => exact c0
    | succ i => rw [cf_succ]; exact all_zero ha i
theorem cf_ext {p q : List K} (h : ∀ x, ev p x = ev q x) (i : Nat) : cf p i = cf q i := by
  have := all_zero (p := subL p q) (fun x => by rw [ev_sub, h x]; grind) i
  rw [cf_sub] at this
  grind
theorem ev_zero_of_cf : ∀ {p : List K}, (∀ i, cf p i = 0) → ∀ x, ev p x = 0
  | [], _, x => rfl
  | c :: p, h, x => by
    have h0 := h 0
    have := ev_zero_of_cf (p := p) (fun i => by have := h (i + 1); rwa [cf_succ] at this) x
    rw [cf_zero] at h0
    simp only [ev, this, h0]
    grind
theorem ev_of_cf {p q : List K} (h : ∀ i, cf p i = cf q i) (x : K) : ev p x = ev q x := by
  have := ev_zero_of_cf (p := subL p q) (fun i => by rw [cf_sub, h i]; grind) x
  rw [ev_sub] at this
  grind
theorem list_ext {p q : List K} (hl : p.length = q.length) (h : ∀ x, ev p x = ev q x) : p = q := by
  apply List.ext_getElem hl
  intro i h1 h2
  have := cf_ext h i
  simp only [cf, List.getD_eq_getElem?_getD, List.getElem?_eq_getElem h1, List.getElem?_eq_getElem h2, Option.getD_some] at this
  exact this
theorem cf_take (p : List K) (k i : Nat) : cf (p.take k) i = if i < k then cf p i else 0 := by
  simp only [cf, List.getD_eq_getElem?_getD, List.getElem?_take]
  by_cases c : i < k
  · simp [c]
  · simp [c]
theorem ev_take {p : List K} {k : Nat} (h : ∀ i, k ≤ i → cf p i = 0) (x : K) : ev (p.take k) x = ev p x :=
  ev_of_cf (fun i => by
    rw [cf_take]
    by_cases c : i < k
    · rw [if_pos c]
    · rw [if_neg c, h i (by omega)]) x
/-- agreement off a point -/
theorem ev_eq_of_ne {p q : List K} {a : K} (h : ∀ x, x ≠ a → ev p x = ev q x) (x : K) : ev p x = ev q x := by
  have z : ∀ x, x ≠ a → ev (subL p q) x = 0 := fun x hx => by rw [ev_sub, h x hx]; grind
  have z0 := ev_at_of_ne z
  rcases Classical.em (x = a) with c | c
  · rw [c]; rw [ev_sub] at z0; grind
  · exact h x c
/-! ### linear factors -/
def prodL : List K → K → K
  | [], _ => 1
  | r :: rs, x => (x - r) * prodL rs x
def dvL : List K → K → List K
  | [], _ => []
  | [_], _ => []
  | _ :: d :: p, r => ev (d :: p) r :: dvL (d :: p) r
theorem ev_dv : ∀ (p : List K) (r x : K), ev p x = (x - r) * ev (dvL p r) x + ev p r
  | [], r, x => by simp only [dvL, ev]; grind
  | [c], r, x => by simp only [dvL, ev]; grind
  | c :: d :: p, r, x => by
    have ih := ev_dv (d :: p) r x
    show c + x * ev (d :: p) x = (x - r) * (ev (d :: p) r + x * ev (dvL (d :: p) r) x) + (c + r * ev (d :: p) r)
    rw [ih]
    grind
theorem len_dv : ∀ (p : List K) (r : K), (dvL p r).length = p.length - 1
  | [], r => rfl
  | [c], r => rfl
  | c :: d :: p, r => by
    have := len_dv (d :: p) r
    simp only [dvL, List.length_cons] at *
    omega
theorem cf_dv : ∀ (p : List K) (r : K) (n : Nat), p.length = n + 2 → cf (dvL p r) n = cf p (n + 1)
  | [], r, n, h => by simp at h
  | [c], r, n, h => by simp at h
  | [c, d], r, n, h => by
    have : n = 0 := by simp at h; omega
    subst this
    show ev [d] r = d
    simp only [ev]; grind
  | c :: d :: e :: p, r, 0, h => by simp at h
  | c :: d :: e :: p, r, n + 1, h => by
    have := cf_dv (d :: e :: p) r n (by simp at *; omega)
    simp only [dvL, cf_succ] at *
    exact this
def linL : List K → List K
  | [] => [1]
  | r :: rs => subL (0 :: linL rs) (smulL r (linL rs))
theorem ev_lin : ∀ (rs : List K) (x : K), ev (linL rs) x = prodL rs x
  | [], x => by simp only [linL, ev, prodL]; grind
  | r :: rs, x => by
    simp only [linL, ev_sub, ev_smul, ev, prodL, ev_lin rs x]; grind
theorem len_lin : ∀ (rs : List K), (linL rs).length = rs.length + 1
  | [] => rfl
  | r :: rs => by simp only [linL, len_sub, List.length_cons, len_smul, len_lin rs]; omega
theorem cf_lin : ∀ (rs : List K), cf (linL rs) rs.length = 1
  | [] => rfl
  | r :: rs => by
    simp only [linL, cf_sub, cf_smul, List.length_cons, cf_succ, cf_lin rs]
    rw [cf_big (by rw [len_lin]; omega)]
    grind
theorem prodL_app : ∀ (rs ts : List K) (x : K), prodL (rs ++ ts) x = prodL rs x * prodL ts x
  | [], ts, x => by simp only [List.nil_append, prodL]; grind
  | r :: rs, ts, x => by simp only [List.cons_append, prodL, prodL_app rs ts x]; grind
theorem prodL_perm {rs ts : List K} (h : rs.Perm ts) (x : K) : prodL rs x = prodL ts x := by
  induction h with
  | nil => rfl
  | cons a _ ih => simp only [prodL, ih]
  | swap a b l => simp only [prodL]; grind
  | trans _ _ ih1 ih2 => rw [ih1, ih2]
theorem prodL_zero : ∀ {rs : List K} {x : K}, prodL rs x = 0 ↔ x ∈ rs
  | [], x => by
    have : (0 : K) < 1 := Lean.Grind.OrderedRing.zero_lt_one
    simp only [prodL, List.not_mem_nil, iff_false]; grind
  | r :: rs, x => by
    rw [List.mem_cons, ← prodL_zero (rs := rs)]
    simp only [prodL]
    constructor
    · intro h
      rcases mul_eq_zero h with c | c
      · exact .inl (by grind)
      · exact .inr c
    · rintro (c | c)
      · rw [c]; grind
      · rw [c]; grind
/-- as many different roots as the degree says -/
theorem split_of_roots : ∀ (rs : List K) (p : List K), p.length = rs.length + 1 → rs.Nodup → (∀ r, r ∈ rs → ev p r = 0) → ∀ x, ev p x = cf p rs.length * prodL rs x
  | [], p, hl, _, _, x => by
    match p, hl with
    | [c], _ => simp only [ev, prodL, List.length_nil, cf_zero]; grind
  | r :: rs, p, hl, hn, hr, x => by
    have h0 := hr r List.mem_cons_self
    have hd : ∀ b, b ∈ rs → ev (dvL p r) b = 0 := fun b hb => by
      have e := ev_dv p r b
      rw [h0, hr b (List.mem_cons_of_mem _ hb)] at e
      rcases mul_eq_zero (a := b - r) (b := ev (dvL p r) b) (by grind) with c | c
      · have : b = r := by grind
        rw [this] at hb
        exact absurd hb (List.nodup_cons.mp hn).1
      · exact c
    have ih := split_of_roots rs (dvL p r) (by rw [len_dv, hl]; simp) (List.nodup_cons.mp hn).2 hd x
    rw [cf_dv p r rs.length (by rw [hl]; simp)] at ih
    rw [ev_dv p r x, ih, h0]
    simp only [prodL, List.length_cons]
    grind
/-! ### far away -/
theorem far_pos : ∀ (p : List K) (n : Nat), p.length = n + 1 → 0 < cf p n → ∃ l B : Rat, 0 < l ∧ 0 < B ∧ ∀ x : K, ofQ B ≤ x → ofQ l ≤ ev p x
  | [], n, h, _ => by simp at h
  | [c], n, h, hp => by
    have : n = 0 := by simp at h; omega
    subst this
    obtain ⟨l, hl, h1⟩ := pos_rat (x := c) hp
    exact ⟨l, 1, hl, by decide, fun x _ => by simp only [ev]; grind⟩
  | c :: d :: p, 0, h, _ => by simp at h
  | c :: d :: p, n + 1, h, hp => by
    rw [cf_succ] at hp
    obtain ⟨l, B, hl, hB, hb⟩ := far_pos (d :: p) n (by simp at *; omega) hp
    obtain ⟨C, hC, hc⟩ := le_rat (-c)
    obtain ⟨t, ht, te⟩ := rat_small hl (show (0 : Rat) < C + l by grind)
    refine ⟨l, B + t, hl, by grind, fun x hx => ?_⟩
    rw [ofQ_add] at hx
    have pt := ofQ_pos ht
    have pB := ofQ_pos hB
    have pl := ofQ_pos hl
    have b := hb x (by grind)
    have m := mul_nn (a := x - ofQ t) (b := ofQ l) (by grind) (by grind)
    have m2 := mul_nn (a := x) (b := ev (d :: p) x - ofQ l) (by grind) (by grind)
    have e : ofQ l * ofQ t = ofQ C + ofQ l := by rw [← ofQ_mul, te, ofQ_add]
    show ofQ l ≤ c + x * ev (d :: p) x
    grind
def altL : List K → List K
  | [] => []
  | c :: p => c :: smulL (-1) (altL p)
theorem ev_alt : ∀ (p : List K) (x : K), ev (altL p) x = ev p (-x)
  | [], x => rfl
  | c :: p, x => by simp only [altL, ev, ev_smul, ev_alt p x]; grind
theorem len_alt : ∀ (p : List K), (altL p).length = p.length
  | [] => rfl
  | c :: p => by simp only [altL, List.length_cons, len_smul, len_alt p]
theorem cf_alt : ∀ (p : List K) (i : Nat), cf (altL p) i = if i % 2 = 0 then cf p i else - cf p i
  | [], i => by simp only [altL, cf_nil]; split <;> grind
  | c :: p, 0 => by simp [altL, cf_zero]
  | c :: p, i + 1 => by
    simp only [altL, cf_succ, cf_smul, cf_alt p i]
    by_cases h : i % 2 = 0
    · rw [if_pos h, if_neg (by omega)]; grind
    · rw [if_neg h, if_pos (by omega)]; grind
/-- the sign that a number of turns tells -/
def sg (k : Nat) (v : K) : Prop := if k % 2 = 0 then 0 < v else v < 0
theorem sg_even {k : Nat} {v : K} (h : k % 2 = 0) : sg k v ↔ 0 < v := by unfold sg; rw [if_pos h]
theorem sg_odd {k : Nat} {v : K} (h : ¬ k % 2 = 0) : sg k v ↔ v < 0 := by unfold sg; rw [if_neg h]
theorem sg_cong {k j : Nat} {v : K} (h : k % 2 = j % 2) : sg k v ↔ sg j v := by unfold sg; rw [h]
theorem sg_neg {k : Nat} {v : K} : sg (k + 1) (-v) ↔ sg k v := by
  by_cases h : k % 2 = 0
  · rw [sg_even h, sg_odd (by omega)]; grind
  · rw [sg_odd h, sg_even (by omega)]; grind
theorem sg_mul_pos {k : Nat} {v c : K} (hc : 0 < c) (h : sg k v) : sg k (c * v) := by
  by_cases e : k % 2 = 0
  · rw [sg_even e] at *; exact K.mul_pos hc h
  · rw [sg_odd e] at *
    have := K.mul_pos (a := c) (b := -v) hc (by grind)
    grind
theorem sg_ne {k : Nat} {v : K} (h : sg k v) : v ≠ 0 := by
  by_cases e : k % 2 = 0
  · rw [sg_even e] at h; grind
  · rw [sg_odd e] at h; grind
theorem far_right {p : List K} {n : Nat} (h : p.length = n + 1) (hp : 0 < cf p n) (c : K) : ∃ b, c < b ∧ sg 0 (ev p b) := by
  obtain ⟨l, B, hl, hB, hb⟩ := far_pos p n h hp
  obtain ⟨C, hC, hc⟩ := le_rat c
  refine ⟨ofQ C + ofQ B, ?_, ?_⟩
  · have := ofQ_pos hB; grind
  · have := hb (ofQ C + ofQ B) (by have := ofQ_pos hC; grind)
    have := ofQ_pos hl
    rw [sg_even rfl]
    grind
theorem far_left {p : List K} {n : Nat} (h : p.length = n + 1) (hp : 0 < cf p n) (c : K) : ∃ a, a < c ∧ sg n (ev p a) := by
  by_cases e : n % 2 = 0
  · obtain ⟨b, h1, h2⟩ := far_right (p := altL p) (by rw [len_alt]; exact h) (by rw [cf_alt, if_pos e]; exact hp) (-c)
    rw [ev_alt] at h2
    exact ⟨-b, by grind, (sg_cong (by omega)).mp h2⟩
  · obtain ⟨b, h1, h2⟩ := far_right (p := smulL (-1) (altL p)) (by rw [len_smul, len_alt]; exact h) (by rw [cf_smul, cf_alt, if_neg e]; grind) (-c)
    rw [ev_smul, ev_alt] at h2
    refine ⟨-b, by grind, ?_⟩
    have q : -1 * ev p (-b) = - ev p (-b) := by grind
    rw [q] at h2
    have := (sg_neg (k := 0) (v := - ev p (-b))).mpr h2
    rw [show - -ev p (-b) = ev p (-b) by grind] at this
    exact (sg_cong (by omega)).mp this
theorem ivt_sg {p : List K} {u v : K} {k : Nat} (huv : u < v) (hu : sg (k + 1) (ev p u)) (hv1 : sg k (ev p v)) : ∃ z, u < z ∧ z < v ∧ ev p z = 0 := by
  by_cases e : k % 2 = 0
  · rw [sg_even e] at hv1
    rw [sg_odd (by omega)] at hu
    exact ivt huv hu hv1
  · rw [sg_odd e] at hv1
    rw [sg_even (by omega)] at hu
    obtain ⟨z, h1, h2, h3⟩ := ivt (p := smulL (-1) p) huv (by rw [ev_smul]; grind) (by rw [ev_smul]; grind)
    rw [ev_smul] at h3
    exact ⟨z, h1, h2, by grind⟩
/-! ### interlacing -/
inductive IL : K → List K → List K → Prop
  | one {b r : K} : r < b → IL b [r] []
  | cons {b r t : K} {rs ts : List K} : r < b → t < r → IL t rs ts → IL b (r :: rs) (t :: ts)
noncomputable def above (l : List K) (x : K) : Nat := l.countP (fun r => decide (x < r))
theorem above_nil (x : K) : above [] x = 0 := rfl
theorem above_cons (r : K) (l : List K) (x : K) : above (r :: l) x = above l x + if x < r then 1 else 0 := by
  simp [above, List.countP_cons]
theorem above_le (l : List K) (x : K) : above l x ≤ l.length := List.countP_le_length
theorem above_app (l m : List K) (x : K) : above (l ++ m) x = above l x + above m x := by
  simp [above, List.countP_append]
theorem above_perm {l m : List K} (h : l.Perm m) (x : K) : above l x = above m x := h.countP_eq _
theorem above_zero {l : List K} {x : K} (h : ∀ r, r ∈ l → r ≤ x) : above l x = 0 := by
  simp only [above, List.countP_eq_zero, decide_eq_true_eq]
  intro r hr
  have := h r hr
  grind
theorem IL.lt {b : K} {rs ts : List K} (h : IL b rs ts) : (∀ r, r ∈ rs → r < b) ∧ ∀ t, t ∈ ts → t < b := by
  induction h with
  | one h => exact ⟨fun r hr => by simp at hr; grind, fun t ht => by simp at ht⟩
  | cons h1 h2 h3 ih =>
    refine ⟨fun r hr => ?_, fun t ht => ?_⟩
    · rcases List.mem_cons.mp hr with c | c
      · grind
      · have := ih.1 r c; grind
    · rcases List.mem_cons.mp ht with c | c
      · grind
      · have := ih.2 t c; grind
theorem IL.len {b : K} {rs ts : List K} (h : IL b rs ts) : rs.length = ts.length + 1 := by
  induction h with
  | one h => rfl
  | cons h1 h2 h3 ih => simp only [List.length_cons, ih]
theorem IL.nodup {b : K} {rs ts : List K} (h : IL b rs ts) : rs.Nodup := by
  induction h with
  | one h => simp
  | cons h1 h2 h3 ih =>
    refine List.nodup_cons.mpr ⟨fun m => ?_, ih⟩
    have := h3.lt.1 _ m
    grind
theorem IL.count {b : K} {rs ts : List K} (h : IL b rs ts) (x : K) : above ts x ≤ above rs x ∧ above rs x ≤ above ts x + 1 := by
  induction h with
  | one h => rw [above_cons, above_nil]; split <;> omega
  | @cons b r t rs ts h1 h2 h3 ih =>
    rw [above_cons, above_cons]
    by_cases c : x < t
    · rw [if_pos c, if_pos (by grind)]; omega
    · rw [if_neg c, above_zero (l := rs) (fun r hr => by have := h3.lt.1 r hr; grind), above_zero (l := ts) (fun r hr => by have := h3.lt.2 r hr; grind)]
      split <;> omega
theorem IL.at_root {b : K} {rs ts : List K} (h : IL b rs ts) {x : K} (hx : x ∈ rs) : above rs x = above ts x := by
  induction h with
  | @one b r h =>
    have : x = r := by simpa using hx
    rw [above_cons, above_nil, if_neg (by grind)]
  | @cons b r t rs ts h1 h2 h3 ih =>
    rw [above_cons, above_cons]
    rcases List.mem_cons.mp hx with c | c
    · rw [if_neg (by grind), if_neg (by grind), above_zero (l := rs) (fun r hr => by have := h3.lt.1 r hr; grind), above_zero (l := ts) (fun r hr => by have := h3.lt.2 r hr; grind)]
    · have := h3.lt.1 x c
      rw [if_pos (by grind), if_pos (by grind), ih c]
theorem IL.at_inner {b : K} {rs ts : List K} (h : IL b rs ts) {x : K} (hx : x ∈ ts) : above rs x = above ts x + 1 := by
  induction h with
  | one h => simp at hx
  | @cons b r t rs ts h1 h2 h3 ih =>
    rw [above_cons, above_cons]
    rcases List.mem_cons.mp hx with c | c
    · rw [if_pos (by grind), if_neg (by grind), above_zero (l := rs) (fun r hr => by have := h3.lt.1 r hr; grind), above_zero (l := ts) (fun r hr => by have := h3.lt.2 r hr; grind)]
    · have := h3.lt.2 x c
      rw [if_pos (by grind), if_pos (by grind), ih c]
theorem IL.apart {b : K} {rs ts : List K} (h : IL b rs ts) {x : K} (h1 : x ∈ rs) (h2 : x ∈ ts) : False := by
  have a := h.at_root h1
  have b := h.at_inner h2
  omega
theorem sg_prod : ∀ (rs : List K) (x : K), x ∉ rs → sg (above rs x) (prodL rs x)
  | [], x, _ => by
    rw [sg_even (by rw [above_nil])]
    exact Lean.Grind.OrderedRing.zero_lt_one
  | r :: rs, x, h => by
    have ih := sg_prod rs x (fun m => h (List.mem_cons_of_mem _ m))
    have ne : x ≠ r := fun e => h (by rw [e]; exact List.mem_cons_self)
    rw [above_cons]
    simp only [prodL]
    by_cases c : x < r
    · rw [if_pos c, show (x - r) * prodL rs x = - ((r - x) * prodL rs x) by grind, sg_neg]
      exact sg_mul_pos (by grind) ih
    · rw [if_neg c]
      exact sg_mul_pos (by grind) ih
/-- signs that alternate from b downwards -/
def AL (p : List K) : Nat → K → List K → Prop
  | k, b, [] => ∃ a, a < b ∧ sg (k + 1) (ev p a)
  | k, b, t :: ts => t < b ∧ sg (k + 1) (ev p t) ∧ AL p (k + 1) t ts
theorem AL.roots {p : List K} : ∀ {ts : List K} {k : Nat} {b : K}, sg k (ev p b) → AL p k b ts → ∃ rs, IL b rs ts ∧ ∀ r, r ∈ rs → ev p r = 0
  | [], k, b, hb, ⟨a, h1, h2⟩ => by
    obtain ⟨z, z1, z2, z3⟩ := ivt_sg h1 h2 hb
    exact ⟨[z], .one z2, fun r hr => by rw [show r = z by simpa using hr]; exact z3⟩
  | t :: ts, k, b, hb, ⟨h1, h2, h3⟩ => by
    obtain ⟨z, z1, z2, z3⟩ := ivt_sg h1 h2 hb
    obtain ⟨rs, i, e⟩ := AL.roots (k := k + 1) h2 h3
    exact ⟨z :: rs, .cons z2 z1 i, fun r hr => by
      rcases List.mem_cons.mp hr with c | c
      · rw [c]; exact z3
      · exact e r c⟩
theorem AL.of {p : List K} {b : K} {ts us : List K} (h : IL b ts us) : ∀ {k : Nat}, (∀ t, t ∈ ts → sg (k + 1 + above us t) (ev p t)) → (∀ c, ∃ a, a < c ∧ sg (k + 1 + ts.length) (ev p a)) → AL p k b ts := by
  induction h with
  | @one b r h =>
    intro k h1 h2
    refine ⟨h, ?_, ?_⟩
    · have := h1 r List.mem_cons_self
      exact this
    · exact h2 r
  | @cons b r t rs ts h1 h2 h3 ih =>
    intro k g1 g2
    refine ⟨h1, ?_, ?_⟩
    · have := g1 r List.mem_cons_self
      rwa [above_cons, if_neg (by grind), above_zero (l := ts) (fun r hr => by have := h3.lt.2 r hr; grind)] at this
    · have key : AL p (k + 1) t rs := ih (fun x hx => by
        have := g1 x (List.mem_cons_of_mem _ hx)
        have l := h3.lt.1 x hx
        rw [above_cons, if_pos l] at this
        exact (sg_cong (by omega)).mp this) (fun c => by
        obtain ⟨a, a1, a2⟩ := g2 c
        exact ⟨a, a1, (sg_cong (by simp only [List.length_cons]; omega)).mp a2⟩)
      -- from t to r: the same list from a higher start
      cases h3 with
      | one q => exact ⟨by grind, key.2.1, key.2.2⟩
      | cons q1 q2 q3 => exact ⟨by grind, key.2.1, key.2.2⟩
theorem IL.up {b c : K} {rs ts : List K} (h : IL b rs ts) (hc : ∀ r, r ∈ rs → r < c) : IL c rs ts := by
  cases h with
  | one q => exact .one (hc _ List.mem_cons_self)
  | cons q1 q2 q3 => exact .cons (hc _ List.mem_cons_self) q2 q3
end MG

-- part MH
namespace MG
open K
/-! ## Sums of squares: what Euclid's algorithm keeps -/
def sm {α : Type} : List α → (α → K) → K
  | [], _ => 0
  | a :: l, h => h a + sm l h
theorem sm_congr {α : Type} : ∀ {l : List α} {h g : α → K}, (∀ a, a ∈ l → h a = g a) → sm l h = sm l g
  | [], _, _, _ => rfl
  | a :: l, h, g, e => by
    simp only [sm]
    rw [e a List.mem_cons_self, sm_congr (fun b hb => e b (List.mem_cons_of_mem _ hb))]
theorem sm_add {α : Type} (l : List α) (h g : α → K) : sm l (fun a => h a + g a) = sm l h + sm l g := by
  induction l with
  | nil => simp only [sm]; grind
  | cons a l ih => simp only [sm, ih]; grind
theorem sm_mul {α : Type} (l : List α) (c : K) (h : α → K) : sm l (fun a => c * h a) = c * sm l h := by
  induction l with
  | nil => simp only [sm]; grind
  | cons a l ih => simp only [sm, ih]; grind
theorem sm_app {α : Type} (l m : List α) (h : α → K) : sm (l ++ m) h = sm l h + sm m h := by
  induction l with
  | nil => simp only [sm, List.nil_append]; grind
  | cons a l ih => simp only [sm, List.cons_append, ih]; grind
theorem sm_map {α β : Type} (l : List α) (k : α → β) (h : β → K) : sm (l.map k) h = sm l (fun a => h (k a)) := by
  induction l with
  | nil => rfl
  | cons a l ih => simp only [sm, List.map_cons, ih]
theorem sq_nn (a : K) : 0 ≤ a * a := by
  rcases Classical.em (0 ≤ a) with c | c
  · exact mul_nn c c
  · have := mul_nn (a := -a) (b := -a) (by grind) (by grind)
    grind
theorem sm_sq_nn {α : Type} (l : List α) (h : α → K) : 0 ≤ sm l (fun a => h a * h a) := by
  induction l with
  | nil => simp only [sm]; grind
  | cons a l ih => have := sq_nn (h a); simp only [sm]; grind
theorem sm_sq_zero {α : Type} : ∀ {l : List α} {h : α → K}, sm l (fun a => h a * h a) = 0 → ∀ a, a ∈ l → h a = 0
  | [], _, _, a, ha => by simp at ha
  | b :: l, h, e, a, ha => by
    simp only [sm] at e
    have n1 := sq_nn (h b)
    have n2 := sm_sq_nn l h
    rcases List.mem_cons.mp ha with c | c
    · rw [c]
      rcases mul_eq_zero (a := h b) (b := h b) (by grind) with q | q <;> exact q
    · exact sm_sq_zero (by grind) a c
def SL : List (List K) → K → List K
  | [], _ => []
  | f :: fs, x => addL (smulL (ev f x) f) (SL fs x)
theorem ev_SL : ∀ (fs : List (List K)) (x y : K), ev (SL fs x) y = sm fs (fun f => ev f x * ev f y)
  | [], x, y => rfl
  | f :: fs, x, y => by simp only [SL, ev_add, ev_smul, sm, ev_SL fs x y]
theorem cf_SL : ∀ (fs : List (List K)) (x : K) (i : Nat), cf (SL fs x) i = sm fs (fun f => ev f x * cf f i)
  | [], x, i => rfl
  | f :: fs, x, i => by simp only [SL, cf_add, cf_smul, sm, cf_SL fs x i]
def TL (m : Nat) : List (List K) → List K
  | [] => []
  | f :: fs => addL (smulL (cf f m) f) (TL m fs)
theorem ev_TL (m : Nat) : ∀ (fs : List (List K)) (x : K), ev (TL m fs) x = sm fs (fun f => ev f x * cf f m)
  | [], x => rfl
  | f :: fs, x => by simp only [TL, ev_add, ev_smul, sm, ev_TL m fs x]; grind
theorem cf_TL (m : Nat) : ∀ (fs : List (List K)) (i : Nat), cf (TL m fs) i = sm fs (fun f => cf f i * cf f m)
  | [], i => rfl
  | f :: fs, i => by simp only [TL, cf_add, cf_smul, sm, cf_TL m fs i]; grind
theorem top_of {w v : K} {P Q : K → K} {p q : List K} {fs : List (List K)} {k : Nat} (hf : ∀ f, f ∈ fs → f.length ≤ k + 1)
    (h : ∀ x y, w * (P x * ev q y - Q x * ev p y) = v * ((x - y) * sm fs (fun f => ev f x * ev f y))) (x : K) :
    w * (P x * cf q (k + 1) - Q x * cf p (k + 1)) = -(v * sm fs (fun f => ev f x * cf f k)) := by
  have e := cf_ext (p := smulL w (subL (smulL (P x) q) (smulL (Q x) p))) (q := smulL v (subL (smulL x (SL fs x)) (0 :: SL fs x))) (fun y => by
    simp only [ev_smul, ev_sub, ev, ev_SL]
    rw [h x y]; grind) (k + 1)
  simp only [cf_smul, cf_sub, cf_succ, cf_SL] at e
  have z : sm fs (fun f => ev f x * cf f (k + 1)) = 0 := by
    rw [sm_congr (g := fun _ => 0 * 0) (fun f hf' => by rw [cf_big (hf f hf')]; grind), sm_mul]; grind
  rw [z] at e
  grind
structure CD (m : Nat) (p q : List K) : Prop where
  lp : p.length = m + 2
  lq : q.length = m + 1
  pp : 0 < cf p (m + 1)
  pq : 0 < cf q m
  sq : ∃ (w v : K) (fs : List (List K)), 0 < w ∧ 0 < v ∧ (∀ f, f ∈ fs → f.length ≤ m + 1) ∧
    ∀ x y, w * (ev p x * ev q y - ev q x * ev p y) = v * ((x - y) * sm fs (fun f => ev f x * ev f y))
theorem alg1 {c w al be px qx rx py qy ry x y : K} (ex : c * px = (al * x + be) * qx - rx) (ey : c * py = (al * y + be) * qy - ry) :
    c * (w * (px * qy - qx * py)) = w * (al * (x - y) * (qx * qy) + (qx * ry - rx * qy)) := by
  have e : c * (w * (px * qy - qx * py)) = w * ((c * px) * qy - qx * (c * py)) := by grind
  rw [e, ex, ey]; grind
theorem alg2 {c w v al a b qx rx qy ry x y S S2 I : K} (k1 : c * I = w * (al * (x - y) * (qx * qy) + (qx * ry - rx * qy))) (i : I = v * ((x - y) * S))
    (s : v * S2 = v * (b * b * S) - w * a * b * (qx * qy)) (a1 : al * b = c * a) : (w * (b * b)) * (qx * ry - rx * qy) = (c * v) * ((x - y) * S2) := by
  have e : (c * v) * ((x - y) * S2) = c * ((x - y) * (v * S2)) := by grind
  rw [e, s]
  have e2 : (w * (b * b)) * (qx * ry - rx * qy) = (b * b) * (w * (al * (x - y) * (qx * qy) + (qx * ry - rx * qy))) - w * (al * b) * b * ((x - y) * (qx * qy)) := by grind
  rw [e2, ← k1, i, a1]; grind
theorem alg3 {b a v w qx qy S Tx Ty U : K} (x1 : w * (qx * a) = v * Tx) (y1 : w * (qy * a) = v * Ty) (t2 : w * (b * a) = v * U) :
    v * ((b * b * S + (- (b * qy)) * Tx) + ((- (b * qx)) * Ty + (qx * qy) * U)) = v * (b * b * S) - w * a * b * (qx * qy) := by
  have e : v * ((b * b * S + (- (b * qy)) * Tx) + ((- (b * qx)) * Ty + (qx * qy) * U)) = v * (b * b * S) - (b * qy) * (v * Tx) - (b * qx) * (v * Ty) + (qx * qy) * (v * U) := by grind
  rw [e, ← x1, ← y1, ← t2]; grind
theorem CD.down {m : Nat} {p q r : List K} (h : CD m p q) {c al be : K} (hc : 0 < c) (e : ∀ x, c * ev p x = (al * x + be) * ev q x - ev r x) (hr : r.length ≤ m) :
    (∀ x, ev r x = 0) ∨ ∃ k, m = k + 1 ∧ CD k q r := by
  obtain ⟨lp, lq, pp, pq, w, v, fs, hw, hv0, hf, id⟩ := h
  have a1 : al * cf q m = c * cf p (m + 1) := by
    have := cf_ext (p := smulL c p) (q := subL (addL (smulL be q) (0 :: smulL al q)) r) (fun x => by
      simp only [ev_smul, ev_sub, ev_add, ev]; rw [e x]; grind) (m + 1)
    simp only [cf_smul, cf_sub, cf_add, cf_succ, cf_big (show q.length ≤ m + 1 by omega), cf_big (show r.length ≤ m + 1 by omega)] at this
    grind
  have t1 : ∀ x, w * (ev q x * cf p (m + 1)) = v * sm fs (fun f => ev f x * cf f m) := fun x => by
    have := top_of hf id x
    rw [cf_big (show q.length ≤ m + 1 by omega)] at this
    grind
  have t2 : w * (cf q m * cf p (m + 1)) = v * sm fs (fun f => cf f m * cf f m) := by
    have := cf_ext (p := smulL (w * cf p (m + 1)) q) (q := smulL v (TL m fs)) (fun x => by
      simp only [ev_smul, ev_TL]; have := t1 x; grind) m
    simp only [cf_smul, cf_TL] at this
    grind
  -- the new squares
  let g : List K → List K := fun f => (subL (smulL (cf q m) f) (smulL (cf f m) q)).take m
  have eg : ∀ f, f ∈ fs → ∀ x, ev (g f) x = cf q m * ev f x - cf f m * ev q x := fun f hf' x => by
    show ev (List.take m _) x = _
    rw [ev_take, ev_sub, ev_smul, ev_smul]
    intro i hi
    rw [cf_sub, cf_smul, cf_smul]
    rcases Nat.lt_or_eq_of_le hi with c | c
    · rw [cf_big (show f.length ≤ i by have := hf f hf'; omega), cf_big (show q.length ≤ i by omega)]; grind
    · subst c; grind
  have hg : ∀ f, f ∈ fs.map g → f.length ≤ m := fun f hf' => by
    obtain ⟨f0, _, rfl⟩ := List.mem_map.mp hf'
    show (List.take m _).length ≤ m
    rw [List.length_take]; omega
  have sg1 : ∀ x y, v * sm (fs.map g) (fun f => ev f x * ev f y) = v * (cf q m * cf q m * sm fs (fun f => ev f x * ev f y)) - w * cf p (m + 1) * cf q m * (ev q x * ev q y) := fun x y => by
    rw [sm_map, sm_congr (g := fun f => (cf q m * cf q m * (ev f x * ev f y) + (- (cf q m * ev q y)) * (ev f x * cf f m)) + ((- (cf q m * ev q x)) * (ev f y * cf f m) + (ev q x * ev q y) * (cf f m * cf f m))) (fun f hf' => by
      rw [eg f hf' x, eg f hf' y]; grind)]
    rw [sm_add, sm_add, sm_add, sm_mul, sm_mul, sm_mul, sm_mul]
    exact alg3 (t1 x) (t1 y) t2
  have id2 : ∀ x y, (w * (cf q m * cf q m)) * (ev q x * ev r y - ev r x * ev q y) = (c * v) * ((x - y) * sm (fs.map g) (fun f => ev f x * ev f y)) := fun x y => by
    exact alg2 (alg1 (e x) (e y)) (id x y) (sg1 x y) a1
  rcases m with _ | k
  · left
    intro x
    rw [List.eq_nil_of_length_eq_zero (Nat.le_zero.mp hr)]
    rfl
  have t3 : ∀ x, (w * (cf q (k + 1) * cf q (k + 1))) * (ev r x * cf q (k + 1)) = (c * v) * sm (fs.map g) (fun f => ev f x * cf f k) := fun x => by
    have := top_of (P := fun x => ev q x) (Q := fun x => ev r x) (p := q) (q := r) (k := k) hg id2 x
    rw [cf_big hr] at this
    grind
  have t4 : (w * (cf q (k + 1) * cf q (k + 1))) * (cf r k * cf q (k + 1)) = (c * v) * sm (fs.map g) (fun f => cf f k * cf f k) := by
    have := cf_ext (p := smulL (w * (cf q (k + 1) * cf q (k + 1)) * cf q (k + 1)) r) (q := smulL (c * v) (TL k (fs.map g))) (fun x => by
      simp only [ev_smul, ev_TL]; have := t3 x; grind) k
    simp only [cf_smul, cf_TL] at this
    grind
  have pW : 0 < w * (cf q (k + 1) * cf q (k + 1)) := K.mul_pos hw (K.mul_pos pq pq)
  have pV := K.mul_pos hc hv0
  have pZ := K.mul_pos pW pq
  rcases Classical.em (sm (fs.map g) (fun f => cf f k * cf f k) = 0) with z | z
  · left
    intro x
    have zz := sm_sq_zero z
    have h3 := t3 x
    rw [sm_congr (g := fun _ => 0 * 0) (fun f hf' => by rw [zz f hf']; grind), sm_mul] at h3
    rcases mul_eq_zero (a := w * (cf q (k + 1) * cf q (k + 1)) * cf q (k + 1)) (b := ev r x) (by grind) with q | q
    · grind
    · exact q
  · right
    have pS : 0 < sm (fs.map g) (fun f => cf f k * cf f k) := by
      have := sm_sq_nn (fs.map g) (fun f => cf f k)
      grind
    have pR : 0 < cf r k := by
      have p1 := K.mul_pos pV pS
      rw [← t4] at p1
      refine Classical.byContradiction fun n => ?_
      have := mul_nn (a := - cf r k) (b := w * (cf q (k + 1) * cf q (k + 1)) * cf q (k + 1)) (by grind) (by grind)
      grind
    refine ⟨k, rfl, lq, ?_, pq, pR, _, _, fs.map g, pW, pV, hg, id2⟩
    have : ¬ r.length ≤ k := fun l => by rw [cf_big l] at pR; grind
    omega
/-- Hermite and Biehler, with the common part told -/
theorem CD.split : ∀ (m : Nat) {p q : List K}, CD m p q → ∃ (c d : K) (g rs ts : List K) (b : K), 0 < c ∧ 0 < d ∧ (∀ x, c * ev p x = ev g x * prodL rs x) ∧ (∀ x, d * ev q x = ev g x * prodL ts x) ∧ IL b rs ts := by
  intro m
  induction m using Nat.strongRecOn with
  | ind m IH =>
  intro p q h
  have lp := h.lp
  have lq := h.lq
  have pp := h.pp
  have pq := h.pq
  let al := cf p (m + 1) * cf q m
  let be := cf q m * cf p m - cf p (m + 1) * cf (0 :: q) m
  have pal : 0 < al := K.mul_pos pp pq
  have pc : 0 < cf q m * cf q m := K.mul_pos pq pq
  let R := subL (addL (smulL be q) (0 :: smulL al q)) (smulL (cf q m * cf q m) p)
  have zR : ∀ i, m ≤ i → cf R i = 0 := fun i hi => by
    show cf (subL _ _) i = 0
    rw [cf_sub, cf_add, cf_smul, cf_smul]
    rcases Nat.lt_or_eq_of_le hi with c | c
    · rcases Nat.lt_or_eq_of_le (show m + 1 ≤ i from c) with d | d
      · rw [cf_big (show q.length ≤ i by omega), cf_big (show p.length ≤ i by omega), cf_big (by rw [List.length_cons, len_smul]; omega)]; grind
      · rw [← d, cf_succ, cf_smul, cf_big (show q.length ≤ m + 1 by omega)]
        show be * 0 + cf p (m + 1) * cf q m * cf q m - _ = 0
        grind
    · rw [← c]
      have e : cf (0 :: smulL al q) m = al * cf (0 :: q) m := by
        cases m with
        | zero => simp only [cf_zero]; grind
        | succ k => rw [cf_succ, cf_succ, cf_smul]
      rw [e]
      show (cf q m * cf p m - cf p (m + 1) * cf (0 :: q) m) * cf q m + cf p (m + 1) * cf q m * cf (0 :: q) m - _ = 0
      grind
  have eR : ∀ x, (cf q m * cf q m) * ev p x = (al * x + be) * ev q x - ev (R.take m) x := fun x => by
    rw [ev_take zR]
    show _ = _ - ev (subL _ _) x
    simp only [ev_sub, ev_add, ev_smul, ev]
    grind
  rcases h.down pc eR (by rw [List.length_take]; omega) with z | ⟨k, rfl, hd⟩
  · -- q divides p
    obtain ⟨b, _, b2⟩ := far_right (p := [be, al]) (n := 1) rfl (by simpa [cf] using pal) 0
    obtain ⟨a, a1, a2⟩ := far_left (p := [be, al]) (n := 1) rfl (by simpa [cf] using pal) b
    obtain ⟨rs, il, hr⟩ := AL.roots (p := [be, al]) (ts := []) (k := 0) b2 ⟨a, a1, a2⟩
    have sp := split_of_roots rs [be, al] (by rw [il.len]; rfl) il.nodup hr
    refine ⟨_, al, smulL al q, rs, [], b, pc, pal, fun x => ?_, fun x => ?_, il⟩
    · have s := sp x
      have l : cf [be, al] rs.length = al := by rw [il.len]; rfl
      rw [l] at s
      have eA : ev [be, al] x = al * x + be := by simp only [ev]; grind
      rw [eA] at s
      rw [eR x, z x, ev_smul]
      grind
    · rw [ev_smul]; simp only [prodL]; grind
  · obtain ⟨c1, d1, g, ts, us, b0, pc1, pd1, e1, e2, il⟩ := IH k (by omega) hd
    let T := linL ts
    let s := subL (smulL d1 (addL (smulL be T) (0 :: smulL al T))) (smulL c1 (linL us))
    have ls : s.length = ts.length + 2 := by
      show (subL _ _).length = _
      simp only [len_sub, len_smul, len_add, List.length_cons, T, len_lin]
      have := il.len
      omega
    have ps : cf s (ts.length + 1) = d1 * al := by
      show cf (subL _ _) _ = _
      simp only [cf_sub, cf_smul, cf_add, cf_succ, T]
      rw [cf_lin, cf_big (show (linL ts).length ≤ ts.length + 1 by rw [len_lin]; omega), cf_big (show (linL us).length ≤ ts.length + 1 by rw [len_lin, il.len]; omega)]
      grind
    have pls : 0 < cf s (ts.length + 1) := by rw [ps]; exact K.mul_pos pd1 pal
    have es : ∀ x, ev s x = d1 * ((al * x + be) * prodL ts x) - c1 * prodL us x := fun x => by
      show ev (subL _ _) x = _
      simp only [ev_sub, ev_smul, ev_add, ev, T, ev_lin]
      grind
    obtain ⟨b, hb1, hb2⟩ := far_right (n := ts.length + 1) ls pls b0
    have il2 : IL b ts us := il.up fun r hr => by have := il.lt.1 r hr; grind
    have alt := AL.of (p := s) il2 (k := 0) (fun t ht => by
      have := sg_prod us t (fun m => il2.apart ht m)
      rw [es t, prodL_zero.mpr ht]
      rw [show d1 * ((al * t + be) * 0) - c1 * prodL us t = -(c1 * prodL us t) by grind]
      exact (sg_cong (by omega)).mp (sg_neg.mpr (sg_mul_pos pc1 this))) (fun c => by
      obtain ⟨a, a1, a2⟩ := far_left (n := ts.length + 1) ls pls c
      exact ⟨a, a1, (sg_cong (by omega)).mp a2⟩)
    obtain ⟨rs, ir, hr⟩ := AL.roots hb2 alt
    have sp := split_of_roots rs s (by rw [ls, ir.len]) ir.nodup hr
    rw [ir.len, ps] at sp
    refine ⟨c1 * d1 * (cf q (k + 1) * cf q (k + 1)), d1 * al * c1, smulL (d1 * al) g, rs, ts, b, K.mul_pos (K.mul_pos pc1 pd1) pc, K.mul_pos (K.mul_pos pd1 pal) pc1, fun x => ?_, fun x => ?_, ir⟩
    · have q1 := eR x
      have q2 := e1 x
      have q3 := e2 x
      have q4 := sp x
      rw [es x] at q4
      rw [ev_smul]
      grind
    · have q2 := e1 x
      rw [ev_smul]
      grind
end MG

-- part MS
namespace MG
open K
/-! ## Splitting: factors of a product of linear factors -/
theorem one_pos : (0 : K) < 1 := Lean.Grind.OrderedRing.zero_lt_one
theorem norm_of : ∀ (k : Nat) (p : List K), p.length ≤ k → (∀ x, ev p x = 0) ∨ ∃ n p', p'.length = n + 1 ∧ p'.length ≤ p.length ∧ cf p' n ≠ 0 ∧ ∀ x, ev p' x = ev p x
  | 0, p, h => by
    left; intro x
    rw [List.eq_nil_of_length_eq_zero (Nat.le_zero.mp h)]; rfl
  | k + 1, p, h => by
    rcases Nat.lt_or_eq_of_le h with c | c
    · exact norm_of k p (by omega)
    · by_cases z : cf p k = 0
      · have e : ∀ x, ev (p.take k) x = ev p x := fun x => ev_take (fun i hi => by
          rcases Nat.lt_or_eq_of_le hi with d | d
          · exact cf_big (by omega)
          · rw [← d]; exact z) x
        rcases norm_of k (p.take k) (by rw [List.length_take]; omega) with q | ⟨n, p', h1, h2, h3, h4⟩
        · left; intro x; rw [← e x]; exact q x
        · right; exact ⟨n, p', h1, by rw [List.length_take] at h2; omega, h3, fun x => by rw [h4 x, e x]⟩
      · right; exact ⟨k, p, c, Nat.le_refl _, z, fun _ => rfl⟩
theorem len_mul : ∀ (p q : List K), (mulL p q).length ≤ p.length + q.length
  | [], q => by simp [mulL]
  | a :: p, q => by
    have := len_mul p q
    simp only [mulL, len_add, len_smul, List.length_cons]
    omega
theorem cf_mul_top : ∀ (p q : List K) (n m : Nat), p.length = n + 1 → q.length = m + 1 → cf (mulL p q) (n + m) = cf p n * cf q m
  | [], q, n, m, h, _ => by simp at h
  | [a], q, n, m, h, hq => by
    have : n = 0 := by simp at h; omega
    subst this
    simp only [mulL, cf_add, cf_smul, Nat.zero_add, cf_zero]
    have : cf [0] m = 0 := by
      cases m with
      | zero => rfl
      | succ m => rw [cf_succ, cf_nil]
    rw [this]; grind
  | a :: b :: p, q, 0, m, h, _ => by simp at h
  | a :: b :: p, q, n + 1, m, h, hq => by
    have ih := cf_mul_top (b :: p) q n m (by simp at *; omega) hq
    show cf (addL (smulL a q) (0 :: mulL (b :: p) q)) (n + 1 + m) = _
    rw [cf_add, cf_smul, show n + 1 + m = (n + m) + 1 by omega, cf_succ, cf_succ, ih, cf_big (show q.length ≤ n + m + 1 by omega)]
    grind
/-- a product of degree 0 -/
theorem const_of_mul {g h : List K} {c : K} (hc : c ≠ 0) (e : ∀ x, ev g x * ev h x = c) : ∃ k l, k * l = c ∧ (∀ x, ev g x = k) ∧ ∀ x, ev h x = l := by
  rcases norm_of _ g (Nat.le_refl _) with z | ⟨n, g', g1, _, g2, g3⟩
  · exact absurd (by rw [← e 0, z 0]; grind) hc
  rcases norm_of _ h (Nat.le_refl _) with z | ⟨m, h', h1, _, h2, h3⟩
  · exact absurd (by rw [← e 0, z 0]; grind) hc
  have t := cf_ext (p := mulL g' h') (q := [c]) (fun x => by rw [ev_mul, g3, h3, e]; simp only [ev]; grind) (n + m)
  rw [cf_mul_top g' h' n m g1 h1] at t
  have nm : n + m = 0 := Classical.byContradiction fun q => by
    obtain ⟨j, hj⟩ : ∃ j, n + m = j + 1 := ⟨n + m - 1, by omega⟩
    rw [hj, cf_succ, cf_nil] at t
    rcases mul_eq_zero t with c | c
    · exact g2 c
    · exact h2 c
  obtain ⟨rfl, rfl⟩ : n = 0 ∧ m = 0 := by omega
  match g', h', g1, h1 with
  | [k], [l], _, _ =>
    refine ⟨k, l, ?_, fun x => ?_, fun x => ?_⟩
    · rw [← e 0, ← g3, ← h3]; simp only [ev]; grind
    · rw [← g3]; simp only [ev]; grind
    · rw [← h3]; simp only [ev]; grind
theorem ev_cancel {p q : List K} {r : K} (h : ∀ x, (x - r) * ev p x = (x - r) * ev q x) (x : K) : ev p x = ev q x :=
  ev_eq_of_ne (a := r) (fun x hx => by
    rcases mul_eq_zero (a := x - r) (b := ev p x - ev q x) (by have := h x; grind) with c | c
    · exact absurd (by grind) hx
    · grind) x
theorem factor : ∀ (rs : List K) (c : K) (g h : List K), c ≠ 0 → (∀ x, ev g x * ev h x = c * prodL rs x) →
    ∃ k l rs1 rs2, k * l = c ∧ rs.Perm (rs1 ++ rs2) ∧ (∀ x, ev g x = k * prodL rs1 x) ∧ ∀ x, ev h x = l * prodL rs2 x
  | [], c, g, h, hc, e => by
    obtain ⟨k, l, e1, e2, e3⟩ := const_of_mul (g := g) (h := h) hc (fun x => by rw [e x]; simp only [prodL]; grind)
    exact ⟨k, l, [], [], e1, .nil, fun x => by rw [e2 x]; simp only [prodL]; grind, fun x => by rw [e3 x]; simp only [prodL]; grind⟩
  | r :: rs, c, g, h, hc, e => by
    have e0 := e r
    simp only [prodL] at e0
    rcases mul_eq_zero (a := ev g r) (b := ev h r) (by grind) with z | z
    · have key : ∀ x, ev (mulL (dvL g r) h) x = ev (smulL c (linL rs)) x := ev_cancel (r := r) fun x => by
        have d := ev_dv g r x
        rw [z] at d
        have ex := e x
        rw [ev_mul, ev_smul, ev_lin]
        simp only [prodL] at ex
        rw [d] at ex
        grind
      obtain ⟨k, l, r1, r2, q1, q2, q3, q4⟩ := factor rs c (dvL g r) h hc (fun x => by have := key x; rwa [ev_mul, ev_smul, ev_lin] at this)
      refine ⟨k, l, r :: r1, r2, q1, q2.cons r, fun x => ?_, q4⟩
      rw [ev_dv g r x, q3 x, z]
      simp only [prodL]; grind
    · have key : ∀ x, ev (mulL g (dvL h r)) x = ev (smulL c (linL rs)) x := ev_cancel (r := r) fun x => by
        have d := ev_dv h r x
        rw [z] at d
        have ex := e x
        rw [ev_mul, ev_smul, ev_lin]
        simp only [prodL] at ex
        rw [d] at ex
        grind
      obtain ⟨k, l, r1, r2, q1, q2, q3, q4⟩ := factor rs c g (dvL h r) hc (fun x => by have := key x; rwa [ev_mul, ev_smul, ev_lin] at this)
      refine ⟨k, l, r1, r :: r2, q1, (q2.cons r).trans List.perm_middle.symm, q3, fun x => ?_⟩
      rw [ev_dv h r x, q4 x, z]
      simp only [prodL]; grind
theorem prodL_inj : ∀ (rs ts : List K) (c d : K), c ≠ 0 → (∀ x, c * prodL rs x = d * prodL ts x) → rs.Perm ts ∧ c = d := by
  intro rs ts c d hc e
  have hd : d ≠ 0 := fun z => by
    -- a point off the roots
    obtain ⟨b, _, hb⟩ := far_right (p := linL rs) (n := rs.length) (len_lin rs) (by rw [cf_lin]; exact one_pos) 0
    have := e b
    rw [z, ← ev_lin] at this
    rcases mul_eq_zero (a := c) (b := ev (linL rs) b) (by grind) with q | q
    · exact hc q
    · exact sg_ne hb q
  have hl : ∀ i, c * cf (linL rs) i = d * cf (linL ts) i := fun i => by
    have := cf_ext (p := smulL c (linL rs)) (q := smulL d (linL ts)) (fun x => by rw [ev_smul, ev_smul, ev_lin, ev_lin, e x]) i
    rwa [cf_smul, cf_smul] at this
  have len : rs.length = ts.length := by
    rcases Nat.lt_trichotomy rs.length ts.length with q | q | q
    · have := hl ts.length
      rw [cf_lin, cf_big (by rw [len_lin]; omega)] at this
      exact absurd (by grind) hd
    · exact q
    · have := hl rs.length
      rw [cf_lin, cf_big (p := linL ts) (by rw [len_lin]; omega)] at this
      exact absurd (by grind) hc
  have cd : c = d := by
    have := hl rs.length
    rw [cf_lin, len, cf_lin] at this
    grind
  refine ⟨?_, cd⟩
  subst cd
  -- by the roots, one after another
  clear hl hd
  induction rs generalizing ts with
  | nil => rw [List.eq_nil_of_length_eq_zero (l := ts) (by rw [← len]; rfl)]
  | cons r rs ih =>
    have m : r ∈ ts := by
      rw [← prodL_zero]
      have := e r
      simp only [prodL] at this
      rcases mul_eq_zero (a := c) (b := prodL ts r) (by grind) with q | q
      · exact absurd q hc
      · exact q
    have pm := List.perm_cons_erase m
    have key : ∀ x, ev (linL rs) x = ev (linL (ts.erase r)) x := ev_cancel (r := r) fun x => by
      have ex := e x
      rw [prodL_perm pm x] at ex
      simp only [prodL] at ex
      rw [ev_lin, ev_lin]
      rcases mul_eq_zero (a := c) (b := (x - r) * prodL rs x - (x - r) * prodL (ts.erase r) x) (by grind) with q | q
      · exact absurd q hc
      · grind
    have := ih (ts.erase r) (by rw [List.length_erase_of_mem m, ← len]; rfl) (fun x => by have := key x; rw [ev_lin, ev_lin] at this; rw [this])
    exact (this.cons r).trans pm.symm
theorem prodL_inj1 {rs ts : List K} (e : ∀ x, prodL rs x = prodL ts x) : rs.Perm ts :=
  (prodL_inj rs ts 1 1 (by have := one_pos; grind) (fun x => by rw [e x])).1
/-- a factor of degree below: zero -/
theorem zero_of_low {r g h : List K} {n : Nat} (hg : g.length = n + 1) (hn : cf g n ≠ 0) (hr : r.length ≤ n) (e : ∀ x, ev r x = ev g x * ev h x) : (∀ x, ev h x = 0) ∧ ∀ x, ev r x = 0 := by
  rcases norm_of _ h (Nat.le_refl _) with z | ⟨m, h', h1, _, h2, h3⟩
  · exact ⟨z, fun x => by rw [e x, z x]; grind⟩
  · have t := cf_ext (p := mulL g h') (q := r) (fun x => by rw [ev_mul, h3, e]) (n + m)
    rw [cf_mul_top g h' n m hg h1, cf_big (show r.length ≤ n + m by omega)] at t
    rcases mul_eq_zero t with c | c
    · exact absurd c hn
    · exact absurd c h2
/-! ### derivatives -/
def dL : List K → List K
  | [] => []
  | _ :: p => addL p (0 :: dL p)
theorem cf_dL : ∀ (p : List K) (i : Nat), cf (dL p) i = ((i + 1 : Nat) : K) * cf p (i + 1)
  | [], i => by simp only [dL, cf_nil]; grind
  | c :: p, 0 => by
    simp only [dL, cf_add, cf_succ, cf_zero]
    rw [show ((0 + 1 : Nat) : K) = 1 from rfl]; grind
  | c :: p, i + 1 => by
    simp only [dL, cf_add, cf_succ, cf_dL p i]
    have : ((i + 1 + 1 : Nat) : K) = ((i + 1 : Nat) : K) + 1 := by
      show ofQ ((i + 1 + 1 : Nat) : Rat) = ofQ ((i + 1 : Nat) : Rat) + ofQ 1
      rw [Rat.natCast_add, ofQ_add]; rfl
    rw [this]; grind
theorem dL_congr {p q : List K} (h : ∀ x, ev p x = ev q x) (x : K) : ev (dL p) x = ev (dL q) x :=
  ev_of_cf (fun i => by rw [cf_dL, cf_dL, cf_ext h]) x
theorem ev_dL_lin (r : K) (rs : List K) (x : K) : ev (dL (linL (r :: rs))) x = prodL rs x + (x - r) * ev (dL (linL rs)) x := by
  have e : ∀ i, cf (dL (linL (r :: rs))) i = cf (subL (addL (linL rs) (0 :: dL (linL rs))) (smulL r (dL (linL rs)))) i := fun i => by
    simp only [cf_dL, linL, cf_sub, cf_smul, cf_add, cf_succ]
    cases i with
    | zero =>
      rw [cf_zero, show ((0 + 1 : Nat) : K) = 1 from rfl]; grind
    | succ i =>
      rw [cf_succ, cf_dL]
      have : ((i + 1 + 1 : Nat) : K) = ((i + 1 : Nat) : K) + 1 := by
        show ofQ ((i + 1 + 1 : Nat) : Rat) = ofQ ((i + 1 : Nat) : Rat) + ofQ 1
        rw [Rat.natCast_add, ofQ_add]; rfl
      rw [this]; grind
  rw [ev_of_cf e x]
  simp only [ev_sub, ev_add, ev_smul, ev, ev_lin]; grind
def om : List K → List (List K)
  | [] => []
  | r :: rs => linL rs :: (om rs).map (fun T => subL (0 :: T) (smulL r T))
theorem om_len : ∀ (rs : List K) (f : List K), f ∈ om rs → f.length ≤ rs.length
  | [], f, h => by simp [om] at h
  | r :: rs, f, h => by
    rcases List.mem_cons.mp h with c | c
    · rw [c, len_lin]; simp
    · obtain ⟨T, hT, rfl⟩ := List.mem_map.mp c
      have := om_len rs T hT
      simp only [len_sub, len_smul, List.length_cons]; omega
theorem om_cd : ∀ (rs : List K) (x y : K), prodL rs x * ev (dL (linL rs)) y - ev (dL (linL rs)) x * prodL rs y = (x - y) * sm (om rs) (fun f => ev f x * ev f y)
  | [], x, y => by simp only [prodL, linL, dL, addL, ev, om, sm]; grind
  | r :: rs, x, y => by
    have ih := om_cd rs x y
    rw [ev_dL_lin, ev_dL_lin]
    simp only [prodL, om, sm, sm_map, ev_lin]
    rw [sm_congr (g := fun f => (x - r) * (y - r) * (ev f x * ev f y)) (fun f _ => by simp only [ev_sub, ev_smul, ev]; grind), sm_mul]
    have e : (x - y) * (prodL rs x * prodL rs y + (x - r) * (y - r) * sm (om rs) fun a => ev a x * ev a y) = (x - y) * (prodL rs x * prodL rs y) + (x - r) * (y - r) * ((x - y) * sm (om rs) fun a => ev a x * ev a y) := by grind
    rw [e, ← ih]
    clear ih e
    grind
theorem dL_rep (r : K) (rest : List K) : ∀ m : Nat, ∃ W : List K, (∀ x, ev (dL (linL (List.replicate (m + 1) r ++ rest))) x = prodL (List.replicate m r) x * ev W x) ∧ ev W r = ofQ ((m + 1 : Nat) : Rat) * prodL rest r
  | 0 => ⟨dL (linL (r :: rest)), fun x => by simp only [List.replicate, prodL, List.cons_append, List.nil_append]; grind, by
      rw [ev_dL_lin]
      have : ofQ ((0 + 1 : Nat) : Rat) = (1 : K) := rfl
      rw [this]; grind⟩
  | m + 1 => by
    obtain ⟨W, hW, hr⟩ := dL_rep r rest m
    refine ⟨addL (linL rest) W, fun x => ?_, ?_⟩
    · rw [show List.replicate (m + 1 + 1) r ++ rest = r :: (List.replicate (m + 1) r ++ rest) from rfl, ev_dL_lin, hW x, prodL_app, ev_add, ev_lin, List.replicate_succ]
      simp only [prodL]; grind
    · rw [ev_add, ev_lin, hr]
      have : ofQ ((m + 1 + 1 : Nat) : Rat) = ofQ ((m + 1 : Nat) : Rat) + 1 := by
        rw [Rat.natCast_add (m + 1) 1, ofQ_add]; rfl
      rw [this]; grind
theorem rep_cancel (r : K) : ∀ (m : Nat) {A B : List K}, (∀ x, prodL (List.replicate m r) x * ev A x = prodL (List.replicate m r) x * ev B x) → ∀ x, ev A x = ev B x
  | 0, A, B, h, x => by have := h x; simp only [List.replicate, prodL] at this; grind
  | m + 1, A, B, h, x => by
    refine rep_cancel r m (fun y => ?_) x
    have := ev_cancel (p := mulL (linL (List.replicate m r)) A) (q := mulL (linL (List.replicate m r)) B) (r := r) (fun z => by
      have := h z
      simp only [List.replicate_succ, prodL] at this
      rw [ev_mul, ev_mul, ev_lin]; grind) y
    rwa [ev_mul, ev_mul, ev_lin] at this
/-! ### what interlaces what splits, splits -/
/-- a monic polynomial with the roots rs -/
structure Sp (p : List K) (rs : List K) : Prop where
  len : p.length = rs.length + 1
  eq : ∀ x, ev p x = prodL rs x
theorem Sp.top {p rs : List K} (h : Sp p rs) : cf p rs.length = 1 := by
  have := cf_ext (p := p) (q := linL rs) (fun x => by rw [h.eq, ev_lin]) rs.length
  rwa [cf_lin] at this
theorem Sp.of {p rs : List K} {n : Nat} {c d : K} (hl : p.length = n + 1) (ht : cf p n = 1) (hc : c ≠ 0) (e : ∀ x, c * ev p x = d * prodL rs x) : Sp p rs := by
  have hl2 : ∀ i, c * cf p i = d * cf (linL rs) i := fun i => by
    have := cf_ext (p := smulL c p) (q := smulL d (linL rs)) (fun x => by rw [ev_smul, ev_smul, ev_lin, e x]) i
    rwa [cf_smul, cf_smul] at this
  have hd : d ≠ 0 := fun z => by
    have := hl2 n
    rw [ht, z] at this
    exact hc (by grind)
  have len : rs.length = n := by
    rcases Nat.lt_trichotomy rs.length n with q | q | q
    · have := hl2 n
      rw [ht, cf_big (p := linL rs) (by rw [len_lin]; omega)] at this
      exact absurd (by grind) hc
    · exact q
    · have := hl2 rs.length
      rw [cf_lin, cf_big (by omega)] at this
      exact absurd (by grind) hd
  have cd : c = d := by
    have := hl2 n
    rw [ht, ← len, cf_lin] at this
    grind
  refine ⟨by omega, fun x => ?_⟩
  have := e x
  rw [← cd] at this
  rcases mul_eq_zero (a := c) (b := ev p x - prodL rs x) (by grind) with q | q
  · exact absurd q hc
  · grind
noncomputable def atl (l : List K) (x : K) : Nat := l.countP (fun r => decide (x ≤ r))
theorem atl_nil (x : K) : atl [] x = 0 := rfl
theorem atl_cons (r : K) (l : List K) (x : K) : atl (r :: l) x = atl l x + if x ≤ r then 1 else 0 := by
  simp [atl, List.countP_cons]
theorem atl_app (l m : List K) (x : K) : atl (l ++ m) x = atl l x + atl m x := by
  simp [atl, List.countP_append]
theorem atl_perm {l m : List K} (h : l.Perm m) (x : K) : atl l x = atl m x := h.countP_eq _
theorem atl_zero {l : List K} {x : K} (h : ∀ r, r ∈ l → r < x) : atl l x = 0 := by
  simp only [atl, List.countP_eq_zero, decide_eq_true_eq]
  intro r hr
  have := h r hr
  grind
theorem IL.count_at {b : K} {rs ts : List K} (h : IL b rs ts) (x : K) : atl ts x ≤ atl rs x ∧ atl rs x ≤ atl ts x + 1 := by
  induction h with
  | one h => rw [atl_cons, atl_nil]; split <;> omega
  | @cons b r t rs ts h1 h2 h3 ih =>
    rw [atl_cons, atl_cons]
    by_cases c : x ≤ t
    · rw [if_pos c, if_pos (by grind)]; omega
    · rw [if_neg c, atl_zero (l := rs) (fun r hr => by have := h3.lt.1 r hr; grind), atl_zero (l := ts) (fun r hr => by have := h3.lt.2 r hr; grind)]
      split <;> omega
theorem CD.sp {m : Nat} {p q qs : List K} (h : CD m p q) (h1 : cf p (m + 1) = 1) (hq : Sp q qs) : ∃ rs, Sp p rs ∧ ∀ x, atl qs x ≤ atl rs x ∧ atl rs x ≤ atl qs x + 1 := by
  obtain ⟨c, d, g, rs, ts, b, hc, hd, e1, e2, il⟩ := CD.split m h
  have nd : d ≠ 0 := by grind
  have nc : c ≠ 0 := by grind
  obtain ⟨k, l, g1, t1, kl, pm, eg, et⟩ := factor qs d g (linL ts) nd (fun x => by rw [ev_lin, ← e2 x, hq.eq x])
  have nl : l ≠ 0 := fun z => nd (by rw [← kl, z]; grind)
  obtain ⟨pt, _⟩ := prodL_inj t1 ts l 1 nl (fun x => by rw [← et x, ev_lin]; grind)
  refine ⟨rs ++ g1, Sp.of (n := m + 1) (d := k) h.lp h1 nc (fun x => by rw [e1 x, eg x, prodL_app]; grind), fun x => ?_⟩
  rw [atl_perm pm x, atl_app, atl_app, atl_perm pt x]
  have := il.count_at x
  omega
end MG

-- part MD
namespace MG
open K
/-! ## Descartes: sign changes and positive roots -/
noncomputable def vr : K → List K → Nat
  | _, [] => 0
  | a, b :: l => if b = 0 then vr a l else (if a * b < 0 then 1 else 0) + vr b l
noncomputable def vk : List K → Nat
  | [] => 0
  | a :: l => if a = 0 then vk l else vr a l
noncomputable def zk : List K → Nat
  | [] => 0
  | a :: l => if a = 0 then zk l + 1 else 0
noncomputable def va : K → List K → Nat
  | _, [] => 0
  | a, b :: l => if b = 0 then va (-a) l else (if 0 < a * b then 1 else 0) + va b l
noncomputable def vka : List K → Nat
  | [] => 0
  | a :: l => if a = 0 then vka l else va a l
theorem mul_ne {a b : K} (ha : a ≠ 0) (hb : b ≠ 0) : a * b ≠ 0 := fun h => by
  rcases mul_eq_zero h with c | c
  · exact ha c
  · exact hb c
theorem mul_sign {a b c : K} (h : 0 < a * c) (hb : b ≠ 0) : (a * b < 0 ↔ c * b < 0) := by
  have ha : a ≠ 0 := fun z => by rw [z] at h; grind
  have hc : c ≠ 0 := fun z => by rw [z] at h; grind
  constructor
  · intro q
    refine Classical.byContradiction fun n => ?_
    have := mul_ne hc hb
    have p1 := K.mul_pos (a := c * b) (b := -(a * b)) (by grind) (by grind)
    have p2 := mul_nn (a := a * c) (b := b * b) (by grind) (sq_nn b)
    grind
  · intro q
    refine Classical.byContradiction fun n => ?_
    have := mul_ne ha hb
    have p1 := K.mul_pos (a := a * b) (b := -(c * b)) (by grind) (by grind)
    have p2 := mul_nn (a := a * c) (b := b * b) (by grind) (sq_nn b)
    grind
theorem vr_sign {a c : K} (h : 0 < a * c) : ∀ l, vr a l = vr c l
  | [] => rfl
  | b :: l => by
    simp only [vr]
    by_cases z : b = 0
    · rw [if_pos z, if_pos z]; exact vr_sign h l
    · rw [if_neg z, if_neg z]
      have := mul_sign (b := b) h z
      by_cases q : a * b < 0
      · rw [if_pos q, if_pos (this.mp q)]
      · rw [if_neg q, if_neg (fun w => q (this.mpr w))]
theorem vr_any (a c : K) (ha : a ≠ 0) (hc : c ≠ 0) : ∀ l, vr c l ≤ vr a l + 1
  | [] => by simp [vr]
  | b :: l => by
    simp only [vr]
    by_cases z : b = 0
    · rw [if_pos z, if_pos z]; exact vr_any a c ha hc l
    · rw [if_neg z, if_neg z]; split <;> split <;> omega
theorem vr_neg (a : K) : ∀ l, vr (-a) (smulL (-1) l) = vr a l
  | [] => rfl
  | b :: l => by
    simp only [vr, smulL]
    by_cases z : b = 0
    · rw [if_pos z, if_pos (by grind)]; exact vr_neg a l
    · rw [if_neg z, if_neg (by grind), show -1 * b = - b by grind, vr_neg b l, show -a * -b = a * b by grind]
theorem vk_neg : ∀ l, vk (smulL (-1) l) = vk l
  | [] => rfl
  | a :: l => by
    simp only [vk, smulL]
    by_cases z : a = 0
    · rw [if_pos z, if_pos (by grind)]; exact vk_neg l
    · rw [if_neg z, if_neg (by grind), show -1 * a = - a by grind, vr_neg]
def MM (r : K) : K → List K → List K
  | c, [] => [c]
  | c, a :: h => (c - r * a) :: MM r a h
theorem sub_MM (r : K) : ∀ (c : K) (h : List K), subL (c :: h) (smulL r h) = MM r c h
  | c, [] => rfl
  | c, a :: h => by
    have := sub_MM r a h
    simp only [subL, smulL, addL, MM] at *
    rw [this]
    congr 1
    grind
theorem MM_grow {r : K} (hr : 0 < r) : ∀ (n : Nat) (h : List K), h.length ≤ n → ∀ c, c ≠ 0 → (1 + vr c h ≤ vr (-c) (MM r c h)) ∧ vr c h ≤ vr c (MM r 0 h) := by
  have sq : ∀ a : K, a ≠ 0 → 0 < a * a := fun a ha => by have := sq_nn a; have := mul_ne ha ha; grind
  intro n
  induction n with
  | zero =>
    intro h hl c hc
    rw [List.eq_nil_of_length_eq_zero (Nat.le_zero.mp hl)]
    have := sq c hc
    simp only [MM, vr]
    rw [if_neg hc, if_pos (by grind), if_pos trivial]
    constructor <;> omega
  | succ n ih =>
    intro h hl c hc
    match h, hl with
    | [], _ =>
      have := sq c hc
      simp only [MM, vr]
      rw [if_neg hc, if_pos (by grind), if_pos trivial]
      constructor <;> omega
    | a :: h, hl =>
      have ihh := ih h (by simp at hl; omega)
      simp only [MM]
      constructor
      · by_cases za : a = 0
        · have e : c - r * a = c := by rw [za]; grind
          have := sq c hc
          rw [e]
          simp only [vr]
          rw [if_pos za, if_neg hc, if_pos (by grind), za]
          have := (ihh c hc).2
          omega
        · have B := (ihh a za).1
          by_cases s : 0 < c * a
          · -- the same sign
            have e1 : vr c (a :: h) = vr a h := by
              simp only [vr]; rw [if_neg za, if_neg (by grind)]; omega
            have e2 : vr (-c) (MM r a h) = vr (-a) (MM r a h) := vr_sign (by grind) _
            rw [e1]
            simp only [vr]
            by_cases z : c - r * a = 0
            · rw [if_pos z, e2]; exact B
            · rw [if_neg z]
              by_cases t : -c * (c - r * a) < 0
              · rw [if_pos t]
                have := vr_any (c - r * a) (-a) z (by grind) (MM r a h)
                omega
              · rw [if_neg t]
                have q : 0 < (c - r * a) * -c := by have := mul_ne (a := -c) (b := c - r * a) (by grind) z; grind
                rw [vr_sign q, e2]
                omega
          · -- opposite signs
            have s2 : c * a < 0 := by have := mul_ne hc za; grind
            have p : 0 < c * (c - r * a) := by
              have p1 := sq c hc
              have p2 := K.mul_pos (a := r) (b := -(c * a)) hr (by grind)
              grind
            have z : c - r * a ≠ 0 := fun z => by rw [z] at p; grind
            have e2 : vr (c - r * a) (MM r a h) = vr (-a) (MM r a h) := by
              rw [vr_sign (a := c - r * a) (c := c) (by grind)]
              exact vr_sign (by grind) _
            simp only [vr]
            rw [if_neg za, if_pos s2, if_neg z, if_pos (by grind), e2]
            omega
      · by_cases za : a = 0
        · simp only [vr]
          rw [if_pos za, if_pos (by rw [za]; grind), za]
          exact (ihh c hc).2
        · have B := (ihh a za).1
          have z : (0 : K) - r * a ≠ 0 := by have := mul_ne (a := r) (b := a) (by grind) za; grind
          have e2 : vr (0 - r * a) (MM r a h) = vr (-a) (MM r a h) := vr_sign (by
            have := K.mul_pos hr (sq a za); grind) _
          simp only [vr]
          rw [if_neg za, if_neg z, e2]
          have t : c * (0 - r * a) < 0 ↔ ¬ c * a < 0 := by
            have h1 := mul_ne hc za
            constructor
            · intro q w
              have := K.mul_pos (a := r) (b := -(c * a)) hr (by grind)
              grind
            · intro q
              have := K.mul_pos (a := r) (b := c * a) hr (by grind)
              grind
          by_cases s : c * a < 0
          · rw [if_pos s, if_neg (fun w => (t.mp w) s)]; omega
          · rw [if_neg s, if_pos (t.mpr s)]; omega
theorem vk_grow {r : K} (hr : 0 < r) : ∀ h : List K, (∃ i, cf h i ≠ 0) → 1 + vk h ≤ vk (MM r 0 h)
  | [], ⟨i, hi⟩ => absurd (cf_nil i) hi
  | a :: h, ⟨i, hi⟩ => by
    simp only [MM]
    by_cases za : a = 0
    · have : ∃ i, cf h i ≠ 0 := by
        cases i with
        | zero => exact absurd za (by rwa [cf_zero] at hi)
        | succ i => exact ⟨i, by rwa [cf_succ] at hi⟩
      have := vk_grow hr h this
      simp only [vk]
      rw [if_pos za, if_pos (by rw [za]; grind), za]
      exact this
    · have B := (MM_grow hr h.length h (Nat.le_refl _) a za).1
      have z : (0 : K) - r * a ≠ 0 := by have := mul_ne (a := r) (b := a) (by grind) za; grind
      have e2 : vr (0 - r * a) (MM r a h) = vr (-a) (MM r a h) := vr_sign (by
        have := sq_nn a
        have := mul_ne za za
        have := K.mul_pos (a := r) (b := a * a) hr (by grind); grind) _
      simp only [vk]
      rw [if_neg za, if_neg z, e2]
      exact B
theorem vk_lin (non : List K) : ∀ pos : List K, (∀ r, r ∈ pos → 0 < r) → pos.length ≤ vk (linL (pos ++ non))
  | [], _ => Nat.zero_le _
  | r :: pos, h => by
    have ih := vk_lin non pos (fun x hx => h x (List.mem_cons_of_mem _ hx))
    have hr := h r List.mem_cons_self
    show pos.length + 1 ≤ vk (subL (0 :: linL (pos ++ non)) (smulL r (linL (pos ++ non))))
    rw [sub_MM]
    have := vk_grow hr (linL (pos ++ non)) ⟨(pos ++ non).length, by rw [cf_lin]; have := one_pos; grind⟩
    omega
theorem vr_va {a : K} (ha : a ≠ 0) : ∀ l, vr a l + va a l ≤ l.length ∧ vr a l + va (-a) l ≤ l.length + 1 := by
  intro l
  induction l generalizing a with
  | nil => simp [vr, va]
  | cons b l ih =>
    simp only [vr, va, List.length_cons]
    by_cases z : b = 0
    · simp only [if_pos z]
      have := ih ha
      rw [show - -a = a by grind]
      omega
    · simp only [if_neg z]
      have := ih (a := b) z
      have q := mul_ne ha z
      constructor
      · by_cases s : a * b < 0
        · rw [if_pos s, if_neg (by grind)]; omega
        · rw [if_neg s, if_pos (by grind)]; omega
      · split <;> split <;> omega
theorem vk_vka : ∀ l : List K, (∃ i, cf l i ≠ 0) → vk l + vka l + zk l + 1 ≤ l.length
  | [], ⟨i, hi⟩ => absurd (cf_nil i) hi
  | a :: l, ⟨i, hi⟩ => by
    simp only [vk, vka, zk, List.length_cons]
    by_cases za : a = 0
    · have : ∃ i, cf l i ≠ 0 := by
        cases i with
        | zero => exact absurd za (by rwa [cf_zero] at hi)
        | succ i => exact ⟨i, by rwa [cf_succ] at hi⟩
      have := vk_vka l this
      simp only [if_pos za]
      omega
    · simp only [if_neg za]
      have := (vr_va za l).1
      omega
theorem va_alt : ∀ (l : List K) (a : K), va a l = vr a (smulL (-1) (altL l))
  | [], a => rfl
  | b :: l, a => by
    simp only [va, altL, smulL, vr]
    by_cases z : b = 0
    · rw [if_pos z, if_pos (by grind), va_alt l (-a)]
      rw [← vr_neg (-a), show - -a = a by grind]
    · have hb : -1 * b = -b := by grind
      rw [hb, if_neg z, if_neg (show ¬ -b = 0 by grind), va_alt l b, ← vr_neg b]
      by_cases s : 0 < a * b
      · rw [if_pos s, if_pos (by grind)]
      · rw [if_neg s, if_neg (by grind)]
theorem vka_alt : ∀ (l : List K), vka l = vk (altL l)
  | [] => rfl
  | a :: l => by
    simp only [vka, altL, vk]
    by_cases z : a = 0
    · rw [if_pos z, if_pos z, vk_neg]; exact vka_alt l
    · rw [if_neg z, if_neg z]; exact va_alt l a
theorem prodL_neg : ∀ (rs : List K) (x : K), prodL rs (-x) = (if rs.length % 2 = 0 then prodL (rs.map (fun r => -r)) x else - prodL (rs.map (fun r => -r)) x)
  | [], x => by simp [prodL]
  | r :: rs, x => by
    simp only [prodL, List.map_cons, List.length_cons, prodL_neg rs x]
    by_cases h : rs.length % 2 = 0
    · rw [if_pos h, if_neg (by omega)]; grind
    · rw [if_neg h, if_pos (by omega)]; grind
theorem vka_lin (rs : List K) : vka (linL rs) = vk (linL (rs.map (fun r => -r))) := by
  rw [vka_alt]
  by_cases h : rs.length % 2 = 0
  · congr 1
    refine list_ext (by rw [len_alt, len_lin, len_lin, List.length_map]) fun x => ?_
    rw [ev_alt, ev_lin, ev_lin, prodL_neg, if_pos h]
  · rw [← vk_neg]
    congr 1
    refine list_ext (by rw [len_smul, len_alt, len_lin, len_lin, List.length_map]) fun x => ?_
    rw [ev_smul, ev_alt, ev_lin, ev_lin, prodL_neg, if_neg h]; grind
theorem lin_perm {rs ts : List K} (h : rs.Perm ts) : linL rs = linL ts :=
  list_ext (by rw [len_lin, len_lin, h.length_eq]) fun x => by rw [ev_lin, ev_lin, prodL_perm h]
theorem parts (l : List K) : ∃ pos non, l.Perm (pos ++ non) ∧ (∀ r, r ∈ pos → 0 < r) ∧ pos.length = above l 0 := by
  induction l with
  | nil => exact ⟨[], [], .nil, fun r h => by simp at h, rfl⟩
  | cons a l ih =>
    obtain ⟨pos, non, p, h1, h2⟩ := ih
    by_cases c : 0 < a
    · refine ⟨a :: pos, non, p.cons a, fun r hr => ?_, ?_⟩
      · rcases List.mem_cons.mp hr with q | q
        · rw [q]; exact c
        · exact h1 r q
      · rw [above_cons, if_pos c, List.length_cons, h2]
    · refine ⟨pos, a :: non, (p.cons a).trans List.perm_middle.symm, h1, ?_⟩
      rw [above_cons, if_neg c, h2]; rfl
theorem vk_above (rs : List K) : above rs 0 ≤ vk (linL rs) := by
  obtain ⟨pos, non, p, h1, h2⟩ := parts rs
  rw [lin_perm p, ← h2]
  exact vk_lin non pos h1
theorem zk_lin (rs : List K) : zk (linL rs) = rs.count 0 := by
  have key : ∀ (k : Nat) (rest : List K), (0 : K) ∉ rest → zk (linL (List.replicate k 0 ++ rest)) = k := by
    intro k rest hr
    induction k with
    | zero =>
      show zk (linL rest) = 0
      have h0 : ev (linL rest) 0 ≠ 0 := fun z => hr (prodL_zero.mp (by rw [← ev_lin]; exact z))
      match e : linL rest with
      | [] => rw [e] at h0; exact absurd rfl h0
      | a :: l =>
        rw [e] at h0
        simp only [ev] at h0
        simp only [zk]
        rw [if_neg (by grind)]
    | succ k ih =>
      have e : linL (List.replicate (k + 1) 0 ++ rest) = 0 :: linL (List.replicate k 0 ++ rest) := by
        refine list_ext (by rw [len_lin, List.length_cons, len_lin]; simp; omega) fun x => ?_
        rw [ev_lin, List.replicate_succ, List.cons_append]
        simp only [prodL, ev, ev_lin]; grind
      rw [e]
      simp only [zk, if_pos, ih]
  have pm : rs.Perm (List.replicate (rs.count 0) 0 ++ rs.filter (fun r => !(r == 0))) := by
    rw [List.perm_iff_count]
    intro a
    rw [List.count_append, List.count_replicate]
    by_cases c : a = 0
    · subst c
      have : List.count 0 (rs.filter (fun r => !(r == 0))) = 0 := List.count_eq_zero.mpr (fun m => by simp at m)
      rw [if_pos (by simp), this]; rfl
    · rw [if_neg (by simpa using fun h => c h.symm), List.count_filter (by simpa using c)]
      omega
  rw [lin_perm pm]
  exact key _ _ (by simp)
theorem tri_count (rs : List K) : above rs 0 + above (rs.map (fun r => -r)) 0 + rs.count 0 = rs.length := by
  induction rs with
  | nil => rfl
  | cons a l ih =>
    rw [List.map_cons, above_cons, above_cons, List.count_cons, List.length_cons]
    by_cases c : 0 < a
    · rw [if_pos c, if_neg (by grind), if_neg (by simp; grind)]; omega
    · by_cases d : a = 0
      · rw [if_neg c, if_neg (by grind), if_pos (by simpa using d)]; omega
      · rw [if_neg c, if_pos (by grind), if_neg (by simpa using d)]; omega
/-- Descartes' rule, exact where all roots are real -/
theorem descartes (rs : List K) : vk (linL rs) = above rs 0 ∧ zk (linL rs) = rs.count 0 := by
  refine ⟨?_, zk_lin rs⟩
  have h1 := vk_above rs
  have h2 := vk_above (rs.map (fun r => -r))
  rw [← vka_lin] at h2
  have h3 := vk_vka (linL rs) ⟨rs.length, by rw [cf_lin]; have := one_pos; grind⟩
  rw [len_lin, zk_lin] at h3
  have h4 := tri_count rs
  omega
theorem atl_eq (rs : List K) (x : K) : atl rs x = above rs x + rs.count x := by
  induction rs with
  | nil => rfl
  | cons a l ih =>
    rw [atl_cons, above_cons, List.count_cons, ih]
    by_cases c : x < a
    · rw [if_pos (by grind), if_pos c, if_neg (by simp; grind)]; omega
    · by_cases d : a = x
      · rw [if_pos (by grind), if_neg c, if_pos (by simpa using d)]; omega
      · rw [if_neg (by grind), if_neg c, if_neg (by simpa using d)]; rfl
end MG

-- part MQ
namespace MG
open K
open Kqg1 (Poly trim coefficient)
/-! ## The specification's polynomials -/
def tk (p : List Rat) : List K := p.map ofQ
theorem len_tk (p : List Rat) : (tk p).length = p.length := List.length_map ..
theorem ofQ0 : ofQ 0 = (0 : K) := rfl
theorem ofQ1 : ofQ 1 = (1 : K) := rfl
theorem coef_nil (i : Nat) : coefficient [] i = 0 := rfl
theorem coef_zero (c : Rat) (p : List Rat) : coefficient (c :: p) 0 = c := rfl
theorem coef_succ (c : Rat) (p : List Rat) (i : Nat) : coefficient (c :: p) (i + 1) = coefficient p i := by simp [coefficient]
theorem coef_big {p : List Rat} {i : Nat} (h : p.length ≤ i) : coefficient p i = 0 := by
  simp [coefficient, List.getD_eq_getElem?_getD, List.getElem?_eq_none h]
theorem cf_tk : ∀ (p : List Rat) (i : Nat), cf (tk p) i = ofQ (coefficient p i)
  | [], _ => rfl
  | _ :: _, 0 => rfl
  | c :: p, i + 1 => by
    rw [coef_succ, ← cf_tk p i]; exact cf_succ _ _ _
theorem ev_tk : ∀ (p : List Rat) (t : Rat), ev (tk p) (ofQ t) = ofQ (Kqg1.evaluate p t)
  | [], _ => rfl
  | c :: p, t => by
    show ofQ c + ofQ t * ev (tk p) (ofQ t) = ofQ (c + t * Kqg1.evaluate p t)
    rw [ev_tk p t, ofQ_add, ofQ_mul]
theorem coef_append (p q : List Rat) (i : Nat) : coefficient (p ++ q) i = if i < p.length then coefficient p i else coefficient q (i - p.length) := by
  simp only [coefficient, List.getD_eq_getElem?_getD, List.getElem?_append]
  split <;> rfl
theorem coef_map_range (n : Nat) (f : Nat → Rat) (i : Nat) : coefficient ((List.range n).map f) i = if i < n then f i else 0 := by
  simp only [coefficient, List.getD_eq_getElem?_getD, List.getElem?_map]
  by_cases c : i < n
  · rw [if_pos c, List.getElem?_range c]; rfl
  · rw [if_neg c, List.getElem?_eq_none (by simpa using c)]; rfl
theorem trim_parts (p : List Rat) : ∃ z : List Rat, p = trim p ++ z ∧ ∀ c, c ∈ z → c = 0 := by
  refine ⟨(p.reverse.takeWhile (fun c => c == 0)).reverse, ?_, fun c hc => ?_⟩
  · have := congrArg List.reverse (List.takeWhile_append_dropWhile (p := fun c : Rat => c == 0) (l := p.reverse))
    rw [List.reverse_append, List.reverse_reverse] at this
    exact this.symm
  · rw [List.mem_reverse] at hc
    have key : ∀ (l : List Rat) (c : Rat), c ∈ l.takeWhile (fun c => c == 0) → c = 0 := by
      intro l
      induction l with
      | nil => intro c h; simp at h
      | cons a l ih =>
        intro c h
        rw [List.takeWhile_cons] at h
        by_cases q : (a == 0) = true
        · rw [if_pos q] at h
          rcases List.mem_cons.mp h with w | w
          · rw [w]; simpa using q
          · exact ih c w
        · rw [if_neg q] at h; simp at h
    exact key _ c hc
theorem coef_all_zero {z : List Rat} (h : ∀ c, c ∈ z → c = 0) (i : Nat) : coefficient z i = 0 := by
  simp only [coefficient, List.getD_eq_getElem?_getD]
  cases e : z[i]? with
  | none => rfl
  | some c => exact h c (List.mem_of_getElem? e)
theorem coef_trim (p : List Rat) (i : Nat) : coefficient (trim p) i = coefficient p i := by
  obtain ⟨z, h1, h2⟩ := trim_parts p
  conv => rhs; rw [h1]
  rw [coef_append]
  split
  · rfl
  · rw [coef_all_zero h2, coef_big (by omega)]
/-- no zero at the end -/
def Tr (p : List Rat) : Prop := ∀ c, p.getLast? = some c → c ≠ 0
theorem tr_nil : Tr [] := fun c h => by simp at h
theorem tr_trim (p : List Rat) : Tr (trim p) := fun c h e => by
  unfold trim at h
  rw [List.getLast?_reverse] at h
  have := List.head?_dropWhile_not (fun c : Rat => c == 0) p.reverse
  rw [h] at this
  simp [e] at this
theorem tr_top {p : List Rat} {n : Nat} (h : Tr p) (hl : p.length = n + 1) : coefficient p n ≠ 0 := by
  apply h
  rw [List.getLast?_eq_getElem?, hl]
  simp only [coefficient, List.getD_eq_getElem?_getD]
  rw [show n + 1 - 1 = n by omega, List.getElem?_eq_getElem (by omega)]
  rfl
theorem tr_len {p : List Rat} (h : Tr p) {k : Nat} (z : ∀ i, k ≤ i → coefficient p i = 0) : p.length ≤ k := by
  refine Classical.byContradiction fun c => ?_
  obtain ⟨n, hn⟩ : ∃ n, p.length = n + 1 := ⟨p.length - 1, by omega⟩
  exact tr_top h hn (z n (by omega))
theorem tr_of_top {p : List Rat} {n : Nat} (hl : p.length = n + 1) (h : coefficient p n ≠ 0) : Tr p := fun c hc e => by
  rw [List.getLast?_eq_getElem?, hl] at hc
  simp only [coefficient, List.getD_eq_getElem?_getD] at h
  rw [show n + 1 - 1 = n by omega] at hc
  rw [hc] at h
  exact h e
theorem tr_ext {p q : List Rat} (hp : Tr p) (hq : Tr q) (h : ∀ i, coefficient p i = coefficient q i) : p = q := by
  have l1 := tr_len hp (k := q.length) (fun i hi => by rw [h i, coef_big hi])
  have l2 := tr_len hq (k := p.length) (fun i hi => by rw [← h i, coef_big hi])
  apply List.ext_getElem (by omega)
  intro i h1 h2
  have := h i
  simp only [coefficient, List.getD_eq_getElem?_getD, List.getElem?_eq_getElem h1, List.getElem?_eq_getElem h2, Option.getD_some] at this
  exact this
theorem trim_id {p : List Rat} (h : Tr p) : trim p = p := tr_ext (tr_trim p) h (coef_trim p)
theorem tk_trim (p : List Rat) (x : K) : ev (tk (trim p)) x = ev (tk p) x := ev_of_cf (fun i => by rw [cf_tk, cf_tk, coef_trim]) x
theorem coef_addQ (p q : List Rat) (i : Nat) : coefficient (Kqg1.add p q) i = coefficient p i + coefficient q i := by
  unfold Kqg1.add
  rw [coef_trim, coef_map_range]
  split
  · rfl
  · rw [coef_big (p := p) (by omega), coef_big (p := q) (by omega)]; grind
theorem tk_add (p q : List Rat) (x : K) : ev (tk (Kqg1.add p q)) x = ev (tk p) x + ev (tk q) x := by
  rw [← ev_add]
  exact ev_of_cf (fun i => by rw [cf_tk, cf_add, cf_tk, cf_tk, coef_addQ, ofQ_add]) x
theorem coef_scaleQ (c : Rat) (p : List Rat) (i : Nat) : coefficient (Kqg1.scale c p) i = c * coefficient p i := by
  unfold Kqg1.scale
  rw [coef_trim]
  simp only [coefficient, List.getD_eq_getElem?_getD, List.getElem?_map]
  cases p[i]? with
  | none => simp
  | some a => rfl
theorem tk_scale (c : Rat) (p : List Rat) (x : K) : ev (tk (Kqg1.scale c p)) x = ofQ c * ev (tk p) x := by
  rw [← ev_smul]
  exact ev_of_cf (fun i => by rw [cf_tk, cf_smul, cf_tk, coef_scaleQ, ofQ_mul]) x
/-! ### products -/
theorem foldl_add : ∀ (l : List Rat) (a : Rat), l.foldl (fun x y => x + y) a = a + l.foldl (fun x y => x + y) 0
  | [], a => by simp only [List.foldl_nil]; grind
  | b :: l, a => by
    simp only [List.foldl_cons]
    rw [foldl_add l (a + b), foldl_add l (0 + b)]; grind
theorem ofQ_foldl : ∀ (l : List Nat) (f : Nat → Rat), ofQ ((l.map f).foldl (fun x y => x + y) 0) = sm l (fun j => ofQ (f j))
  | [], f => rfl
  | a :: l, f => by
    simp only [List.map_cons, List.foldl_cons, sm]
    rw [foldl_add, ofQ_add, ofQ_foldl l f]
    grind
theorem sm_range_succ (n : Nat) (h : Nat → K) : sm (List.range (n + 1)) h = h 0 + sm (List.range n) (fun j => h (j + 1)) := by
  rw [List.range_succ_eq_map]
  simp only [sm, sm_map]
theorem cf_mul : ∀ (p q : List K) (i : Nat), cf (mulL p q) i = sm (List.range (i + 1)) (fun j => cf p j * cf q (i - j))
  | [], q, i => by
    rw [sm_congr (g := fun _ => 0 * 0) (fun j _ => by rw [cf_nil]; grind), sm_mul]
    simp only [mulL, cf_nil]; grind
  | a :: p, q, i => by
    rw [sm_range_succ]
    simp only [mulL, cf_add, cf_smul, cf_zero, Nat.sub_zero]
    congr 1
    cases i with
    | zero => rfl
    | succ i =>
      rw [cf_succ, cf_mul p q i]
      exact sm_congr fun j hj => by rw [cf_succ, show i + 1 - (j + 1) = i - j by omega]
theorem sm_zero {α : Type} {l : List α} {h : α → K} (z : ∀ a, a ∈ l → h a = 0) : sm l h = 0 := by
  rw [sm_congr (g := fun _ => 0 * 0) (fun a ha => by rw [z a ha]; grind), sm_mul]; grind
theorem coef_mulQ (p q : List Rat) (i : Nat) : ofQ (coefficient (Kqg1.multiply p q) i) = cf (mulL (tk p) (tk q)) i := by
  unfold Kqg1.multiply
  rw [coef_trim, coef_map_range, cf_mul]
  by_cases c : i < p.length + q.length - 1
  · rw [if_pos c, ofQ_foldl]
    exact sm_congr fun j _ => by rw [cf_tk, cf_tk, ofQ_mul]
  · rw [if_neg c, sm_zero]
    · rfl
    · intro j hj
      rw [List.mem_range] at hj
      by_cases d : j < p.length
      · rw [cf_big (p := tk q) (by rw [len_tk]; omega)]; grind
      · rw [cf_big (p := tk p) (by rw [len_tk]; omega)]; grind
theorem tk_mul (p q : List Rat) (x : K) : ev (tk (Kqg1.multiply p q)) x = ev (tk p) x * ev (tk q) x := by
  rw [← ev_mul]
  exact ev_of_cf (fun i => by rw [cf_tk, coef_mulQ]) x
theorem tr_add (p q : List Rat) : Tr (Kqg1.add p q) := tr_trim _
theorem tr_scale (c : Rat) (p : List Rat) : Tr (Kqg1.scale c p) := tr_trim _
theorem tr_mul (p q : List Rat) : Tr (Kqg1.multiply p q) := tr_trim _
theorem tr_der (p : List Rat) : Tr (Kqg1.derivative p) := tr_trim _
theorem coef_derQ (p : List Rat) (i : Nat) : coefficient (Kqg1.derivative p) i = ((i + 1 : Nat) : Rat) * coefficient p (i + 1) := by
  unfold Kqg1.derivative
  rw [coef_trim, coef_map_range]
  split
  · rfl
  · rw [coef_big (p := p) (by omega)]; grind
theorem tk_der (p : List Rat) (x : K) : ev (tk (Kqg1.derivative p)) x = ev (dL (tk p)) x :=
  ev_of_cf (fun i => by rw [cf_tk, cf_dL, cf_tk, coef_derQ, ofQ_mul]; rfl) x
theorem len_der {p : List Rat} {n : Nat} (h : Tr p) (hl : p.length = n + 1) : (Kqg1.derivative p).length = n := by
  apply Nat.le_antisymm
  · exact tr_len (tr_der p) (fun i hi => by rw [coef_derQ, coef_big (p := p) (by omega)]; grind)
  · rcases n with _ | n
    · omega
    · refine Classical.byContradiction fun c => ?_
      have e := coef_derQ p n
      rw [coef_big (by omega)] at e
      have t := tr_top h hl
      have n1 : ((n + 1 : Nat) : Rat) ≠ 0 := by
        intro z
        have := Rat.natCast_eq_zero_iff.mp z
        omega
      rcases Rat.mul_eq_zero.mp e.symm with q | q
      · exact n1 q
      · exact t q
theorem lead_eq (p : List Rat) {n : Nat} (h : p.length = n + 1) : Kqg1.leadingCoefficient p = coefficient p n := by
  unfold Kqg1.leadingCoefficient
  rw [List.getLast?_eq_getElem?, h]
  simp only [coefficient, List.getD_eq_getElem?_getD]
  rw [show n + 1 - 1 = n by omega]
/-! ### division -/
theorem coef_replicate (n i : Nat) : coefficient (List.replicate n 0) i = 0 := coef_all_zero (fun c hc => (List.mem_replicate.mp hc).2) i
theorem divide_eq : ∀ (fuel : Nat) (q p s : List Rat) (x : K), ev (tk (Kqg1.divide fuel q p s).1) x * ev (tk q) x + ev (tk (Kqg1.divide fuel q p s).2) x = ev (tk s) x * ev (tk q) x + ev (tk p) x
  | 0, q, p, s, x => rfl
  | fuel + 1, q, p, s, x => by
    simp only [Kqg1.divide]
    split
    · rfl
    · rw [divide_eq fuel]
      simp only [tk_add, tk_scale, tk_mul]
      have : ofQ (-1) = (-1 : K) := rfl
      rw [this]; grind
theorem divide_tr : ∀ (fuel : Nat) (q p s : List Rat), Tr p → Tr s → Tr (Kqg1.divide fuel q p s).1 ∧ Tr (Kqg1.divide fuel q p s).2
  | 0, q, p, s, hp, hs => ⟨hs, hp⟩
  | fuel + 1, q, p, s, hp, hs => by
    simp only [Kqg1.divide]
    split
    · exact ⟨hs, hp⟩
    · exact divide_tr fuel _ _ _ (tr_add _ _) (tr_add _ _)
theorem divide_len : ∀ (fuel : Nat) (q p s : List Rat), Tr p → Tr q → q ≠ [] → p.length < fuel → (Kqg1.divide fuel q p s).2.length < q.length
  | 0, q, p, s, _, _, _, h => absurd h (Nat.not_lt_zero _)
  | fuel + 1, q, p, s, hp, hq, ne, h => by
    obtain ⟨m, hm⟩ : ∃ m, q.length = m + 1 := ⟨q.length - 1, by have := List.length_pos_iff.mpr ne; omega⟩
    simp only [Kqg1.divide]
    by_cases c : p.length < q.length ∨ p = []
    · rw [if_pos c]
      rcases c with c | c
      · exact c
      · rw [c, hm]; exact Nat.succ_pos _
    · rw [if_neg c]
      have nep : p ≠ [] := fun z => c (.inr z)
      obtain ⟨n, hn⟩ : ∃ n, p.length = n + 1 := ⟨p.length - 1, by have := List.length_pos_iff.mpr nep; omega⟩
      have hnm : m ≤ n := by omega
      refine divide_len fuel q _ _ (tr_add _ _) hq ne ?_
      refine Nat.lt_of_le_of_lt (tr_len (tr_add _ _) (k := n) fun i hi => ?_) (by omega)
      apply ofQ_inj
      rw [coef_addQ, coef_scaleQ, ofQ_add, ofQ_mul, coef_mulQ, cf_mul]
      have lq := tr_top hq hm
      let e := Kqg1.leadingCoefficient p / Kqg1.leadingCoefficient q
      have ct : ∀ j, coefficient (List.replicate (p.length - q.length) 0 ++ [e]) j = if j = n - m then e else 0 := fun j => by
        rw [coef_append, List.length_replicate]
        by_cases d : j < p.length - q.length
        · rw [if_pos d, coef_replicate, if_neg (by omega)]
        · rw [if_neg d]
          by_cases f : j = n - m
          · rw [if_pos f, show j - (p.length - q.length) = 0 by omega]; rfl
          · rw [if_neg f, coef_big (by simp; omega)]
      have key : sm (List.range (i + 1)) (fun j => cf (tk (List.replicate (p.length - q.length) 0 ++ [e])) j * cf (tk q) (i - j)) = ofQ e * cf (tk q) (i - (n - m)) := by
        have : ∀ (k : Nat) , n - m < k → sm (List.range k) (fun j => cf (tk (List.replicate (p.length - q.length) 0 ++ [e])) j * cf (tk q) (i - j)) = ofQ e * cf (tk q) (i - (n - m)) := by
          intro k
          induction k with
          | zero => intro h; omega
          | succ k ih =>
            intro h
            rw [List.range_succ, sm_app]
            simp only [sm]
            by_cases d : n - m < k
            · rw [ih d, cf_tk (List.replicate _ _ ++ _) k, ct k, if_neg (by omega), ofQ0]; grind
            · have : k = n - m := by omega
              subst this
              rw [sm_zero, cf_tk (List.replicate _ _ ++ _) (n - m), ct (n - m), if_pos rfl]
              · grind
              · intro j hj
                rw [List.mem_range] at hj
                rw [cf_tk, ct j, if_neg (by omega), ofQ0]; grind
        exact this (i + 1) (by omega)
      rw [key]
      rcases Nat.lt_or_eq_of_le hi with d | d
      · rw [coef_big (by omega), cf_big (by rw [len_tk]; omega)]; rw [ofQ0]; grind
      · rw [← d, show n - (n - m) = m by omega, cf_tk]
        have : e * coefficient q m = coefficient p n := by
          show Kqg1.leadingCoefficient p / Kqg1.leadingCoefficient q * _ = _
          rw [lead_eq p hn, lead_eq q hm, Rat.div_mul_cancel lq]
        rw [← ofQ_mul, this]
        have : ofQ (-1) = (-1 : K) := rfl
        rw [this, ofQ0]; grind
theorem tk_divide (p q : List Rat) (x : K) : ev (tk p) x = ev (tk (Kqg1.quotient p q)) x * ev (tk q) x + ev (tk (Kqg1.remainder p q)) x := by
  unfold Kqg1.quotient Kqg1.remainder
  rw [divide_eq]
  show _ = 0 * _ + _
  grind
theorem rem_len {p q : List Rat} (hp : Tr p) (hq : Tr q) (ne : q ≠ []) : (Kqg1.remainder p q).length < q.length := divide_len _ _ _ _ hp hq ne (by omega)
theorem rem_tr {p q : List Rat} (hp : Tr p) : Tr (Kqg1.remainder p q) := (divide_tr _ _ _ _ hp tr_nil).2
theorem quo_tr {p q : List Rat} (hp : Tr p) : Tr (Kqg1.quotient p q) := (divide_tr _ _ _ _ hp tr_nil).1
theorem ev_tk_nil (x : K) : ev (tk []) x = 0 := rfl
theorem tk_eq_nil {p : List Rat} (hp : Tr p) (z : ∀ x, ev (tk p) x = 0) : p = [] :=
  tr_ext hp tr_nil (fun i => ofQ_inj (by rw [← cf_tk, all_zero z i]; rfl))
/-- Euclid -/
theorem euclid_eq : ∀ (fuel : Nat) (p q : List Rat), Tr p → Tr q → p ≠ [] → q.length < fuel → Tr (Kqg1.euclid fuel p q) ∧ Kqg1.euclid fuel p q ≠ [] ∧
    ∃ U V A B : List K, (∀ x, ev (tk (Kqg1.euclid fuel p q)) x = ev U x * ev (tk p) x + ev V x * ev (tk q) x) ∧ (∀ x, ev (tk p) x = ev (tk (Kqg1.euclid fuel p q)) x * ev A x) ∧ ∀ x, ev (tk q) x = ev (tk (Kqg1.euclid fuel p q)) x * ev B x
  | 0, p, q, _, _, _, h => absurd h (Nat.not_lt_zero _)
  | fuel + 1, p, q, hp, hq, ne, h => by
    simp only [Kqg1.euclid]
    by_cases c : q = []
    · rw [if_pos c]
      refine ⟨hp, ne, [1], [], [1], [], fun x => ?_, fun x => ?_, fun x => ?_⟩
      · simp only [ev]; grind
      · simp only [ev]; grind
      · rw [c, ev_tk_nil]; simp only [ev]; grind
    · rw [if_neg c]
      have hr := rem_len hp hq c
      obtain ⟨h1, h2, U, V, A, B, e1, e2, e3⟩ := euclid_eq fuel q (Kqg1.remainder p q) hq (rem_tr hp) c (by omega)
      refine ⟨h1, h2, V, subL U (mulL V (tk (Kqg1.quotient p q))), addL (mulL (tk (Kqg1.quotient p q)) A) B, A, fun x => ?_, fun x => ?_, e2⟩
      · have d := tk_divide p q x
        rw [e1 x, ev_sub, ev_mul]
        have : ev (tk (Kqg1.remainder p q)) x = ev (tk p) x - ev (tk (Kqg1.quotient p q)) x * ev (tk q) x := by grind
        rw [this]; grind
      · have d := tk_divide p q x
        have e2x := e2 x
        have e3x := e3 x
        rw [d, ev_add, ev_mul, e3x]
        have : ev (tk (Kqg1.quotient p q)) x * ev (tk q) x = ev (tk (Kqg1.quotient p q)) x * (ev (tk (Kqg1.euclid fuel q (Kqg1.remainder p q))) x * ev A x) := by rw [← e2x]
        rw [this]; grind
theorem monic_eq {p : List Rat} {n : Nat} (hp : Tr p) (hl : p.length = n + 1) : (Kqg1.monic p).length = n + 1 ∧ coefficient (Kqg1.monic p) n = 1 ∧ ∃ c : K, c ≠ 0 ∧ ∀ x, c * ev (tk (Kqg1.monic p)) x = ev (tk p) x := by
  have ne : p ≠ [] := fun z => by rw [z] at hl; simp at hl
  have t := tr_top hp hl
  unfold Kqg1.monic
  rw [if_neg ne, lead_eq p hl]
  have c1 : coefficient (Kqg1.scale (1 / coefficient p n) p) n = 1 := by
    rw [coef_scaleQ, Rat.div_mul_cancel t]
  refine ⟨?_, c1, ofQ (coefficient p n), fun z => t (ofQ_inj z), fun x => ?_⟩
  · apply Nat.le_antisymm
    · exact tr_len (tr_scale _ _) (k := n + 1) (fun i hi => by rw [coef_scaleQ, coef_big (p := p) (i := i) (by omega)]; grind)
    · refine Classical.byContradiction fun q => ?_
      rw [coef_big (p := Kqg1.scale (1 / coefficient p n) p) (by omega)] at c1
      exact absurd c1 (by decide)
  · rw [tk_scale]
    have : ofQ (coefficient p n) * ofQ (1 / coefficient p n) = 1 := by
      rw [← ofQ_mul, Rat.mul_comm, Rat.div_mul_cancel t]; rfl
    grind
end MG

-- part MT
namespace MG
open K
open Kqg1 (Poly trim coefficient)
theorem perm_rep (l : List K) (r : K) : l.Perm (List.replicate (l.count r) r ++ l.filter (fun a => !(a == r))) := by
  rw [List.perm_iff_count]
  intro a
  rw [List.count_append, List.count_replicate]
  by_cases c : a = r
  · subst c
    have : List.count a (l.filter (fun b => !(b == a))) = 0 := List.count_eq_zero.mpr (fun m => by simp at m)
    rw [if_pos (by simp), this]; rfl
  · rw [if_neg (by simpa using fun h => c h.symm), List.count_filter (by simpa using c)]
    omega
theorem Sp.trq {p : List Rat} {rs : List K} (h : Sp (tk p) rs) : p.length = rs.length + 1 ∧ coefficient p rs.length = 1 ∧ Tr p := by
  have l : p.length = rs.length + 1 := by rw [← len_tk, h.len]
  have t := h.top
  rw [cf_tk] at t
  have c : coefficient p rs.length = 1 := ofQ_inj t
  exact ⟨l, c, tr_of_top l (by rw [c]; decide)⟩
theorem Sp.mkq {p : List Rat} {rs : List K} (ht : Tr p) (e : ∀ x, ev (tk p) x = prodL rs x) : Sp (tk p) rs := by
  refine ⟨?_, e⟩
  have ce : ∀ i, cf (tk p) i = cf (linL rs) i := cf_ext (fun x => by rw [e x, ev_lin])
  rw [len_tk]
  apply Nat.le_antisymm
  · refine tr_len ht (k := rs.length + 1) fun i hi => ofQ_inj ?_
    rw [← cf_tk, ce i, cf_big (by rw [len_lin]; exact hi)]; rfl
  · refine Classical.byContradiction fun c => ?_
    have := ce rs.length
    rw [cf_lin, cf_big (by rw [len_tk]; omega)] at this
    have := one_pos
    grind
theorem der_at {ss : List K} (hn : ss.Nodup) {x : K} (hx : x ∈ ss) : ev (dL (linL ss)) x ≠ 0 := fun z => by
  have pm := List.perm_cons_erase hx
  rw [lin_perm pm, ev_dL_lin] at z
  have : prodL (ss.erase x) x = 0 := by grind
  have := prodL_zero.mp this
  have n2 := pm.nodup hn
  exact (List.nodup_cons.mp n2).1 this
/-- one layer -/
theorem layer {p : List Rat} {rs : List K} (h : Sp (tk p) rs) (hr : rs ≠ []) : ∃ ss gs, Sp (tk (Kqg1.squarefree p)) ss ∧ Sp (tk (Kqg1.gcd p (Kqg1.derivative p))) gs ∧ rs.Perm (ss ++ gs) ∧ ss.Nodup ∧ gs.length < rs.length ∧ ∀ r, r ∈ rs → r ∈ ss := by
  obtain ⟨lp, tp, trp⟩ := h.trq
  obtain ⟨n, hn⟩ : ∃ n, rs.length = n + 1 := ⟨rs.length - 1, by have := List.length_pos_iff.mpr hr; omega⟩
  have ld := len_der trp lp
  have nep : p ≠ [] := fun z => by rw [z] at lp; simp at lp
  obtain ⟨et, en, U, V, A, B, e1, e2, e3⟩ := euclid_eq (p.length + (Kqg1.derivative p).length + 2) p (Kqg1.derivative p) trp (tr_der p) nep (by omega)
  obtain ⟨j, hj⟩ : ∃ j, (Kqg1.euclid (p.length + (Kqg1.derivative p).length + 2) p (Kqg1.derivative p)).length = j + 1 := Nat.exists_eq_succ_of_ne_zero (by have := List.length_pos_iff.mpr en; omega)
  obtain ⟨m1, m2, c, hc, m3⟩ := monic_eq et hj
  have gd : Kqg1.gcd p (Kqg1.derivative p) = Kqg1.monic (Kqg1.euclid (p.length + (Kqg1.derivative p).length + 2) p (Kqg1.derivative p)) := rfl
  rw [← gd] at m1 m2 m3
  have sq : Kqg1.squarefree p = Kqg1.quotient p (Kqg1.gcd p (Kqg1.derivative p)) := by
    unfold Kqg1.squarefree; rw [if_neg (by omega)]
  rw [sq]
  clear gd sq
  generalize Kqg1.gcd p (Kqg1.derivative p) = g at m1 m2 m3 ⊢
  generalize Kqg1.euclid (p.length + (Kqg1.derivative p).length + 2) p (Kqg1.derivative p) = e at *
  have ne1 : (1 : K) ≠ 0 := by have := one_pos; grind
  -- the roots of g
  obtain ⟨k, l, gs, r2, kl, pm, eg, _⟩ := factor rs 1 (tk g) (smulL c A) ne1 (fun x => by rw [ev_smul, ← h.eq, e2 x, ← m3 x]; grind)
  have spg : Sp (tk g) gs := Sp.of (n := j) (c := 1) (d := k) (by rw [len_tk, m1]) (by rw [cf_tk, m2]; rfl) ne1 (fun x => by rw [eg x]; grind)
  have jg : gs.length = j := by have := spg.len; rw [len_tk, m1] at this; omega
  -- the quotient
  have trg := spg.trq.2.2
  have neg : g ≠ [] := fun z => by rw [z] at m1; simp at m1
  have dv := tk_divide p g
  have rl := rem_len trp trg neg
  have z := zero_of_low (r := tk (Kqg1.remainder p g)) (g := tk g) (h := subL (smulL c A) (tk (Kqg1.quotient p g))) (n := j) (by rw [len_tk, m1]) (by rw [cf_tk, m2]; exact ne1) (by rw [len_tk]; omega) (fun x => by
    have d := dv x
    rw [e2 x, ← m3 x] at d
    rw [ev_sub, ev_smul]; grind)
  have q : ∀ x, ev (tk (Kqg1.quotient p g)) x * ev (tk g) x = 1 * prodL rs x := fun x => by rw [← h.eq x, dv x, z.2 x]; grind
  obtain ⟨k2, l2, ss, g2, kl2, pm2, es, eg2⟩ := factor rs 1 (tk (Kqg1.quotient p g)) (tk g) ne1 q
  obtain ⟨pg, l1⟩ := prodL_inj gs g2 1 l2 ne1 (fun x => by rw [← eg2 x, spg.eq x]; grind)
  have k1 : k2 = 1 := by rw [← l1] at kl2; grind
  have sps : Sp (tk (Kqg1.quotient p g)) ss := Sp.mkq (quo_tr trp) (fun x => by rw [es x, k1]; grind)
  have pm3 : rs.Perm (ss ++ gs) := pm2.trans (List.Perm.append_left _ pg.symm)
  refine ⟨ss, gs, sps, spg, pm3, ?_, ?_, ?_⟩
  · rw [List.nodup_iff_count]
    intro r
    have ct : rs.count r = ss.count r + gs.count r := by rw [pm3.count_eq, List.count_append]
    cases hm : rs.count r with
    | zero => omega
    | succ m =>
      have pr := perm_rep rs r
      rw [hm] at pr
      generalize rs.filter (fun a => !(a == r)) = rest at pr
      obtain ⟨W, hW, _⟩ := dL_rep r rest m
      have ed : ∀ x, ev (tk (Kqg1.derivative p)) x = prodL (List.replicate m r) x * ev W x := fun x => by
        rw [tk_der, dL_congr (q := linL rs) (fun x => by rw [h.eq, ev_lin]), lin_perm pr, hW x]
      have ep : ∀ x, ev (tk p) x = prodL (List.replicate m r) x * ((x - r) * prodL rest x) := fun x => by
        rw [h.eq, prodL_perm pr, prodL_app, List.replicate_succ]
        simp only [prodL]; grind
      obtain ⟨k3, l3, r3, r4, _, pm4, e4, _⟩ := factor gs c (linL (List.replicate m r)) (addL (mulL U (linL (r :: rest))) (mulL V W)) hc (fun x => by
        rw [ev_lin, ev_add, ev_mul, ev_mul, ev_lin, ← spg.eq x, m3 x, e1 x, ed x, ep x]
        simp only [prodL]; grind)
      obtain ⟨pr3, _⟩ := prodL_inj (List.replicate m r) r3 1 k3 ne1 (fun x => by rw [← e4 x, ev_lin]; grind)
      have : m ≤ gs.count r := by
        rw [pm4.count_eq, List.count_append, ← pr3.count_eq, List.count_replicate_self]; omega
      omega
  · refine Classical.byContradiction fun nl => ?_
    have zz := zero_of_low (r := tk (Kqg1.derivative p)) (g := tk g) (h := smulL c B) (n := j) (by rw [len_tk, m1]) (by rw [cf_tk, m2]; exact ne1) (by rw [len_tk]; omega) (fun x => by rw [ev_smul, e3 x, ← m3 x]; grind)
    have := tk_eq_nil (tr_der p) zz.2
    rw [this] at ld
    simp at ld; omega
  · intro r hr'
    refine Classical.byContradiction fun nm => ?_
    have ct : rs.count r = gs.count r := by rw [pm3.count_eq, List.count_append, List.count_eq_zero.mpr nm]; omega
    obtain ⟨m, hm⟩ : ∃ m, rs.count r = m + 1 := Nat.exists_eq_succ_of_ne_zero (by have := List.count_pos_iff.mpr hr'; omega)
    have pr := perm_rep rs r
    have nrest : r ∉ rs.filter (fun a => !(a == r)) := fun q => by simp at q
    rw [hm] at pr
    generalize rs.filter (fun a => !(a == r)) = rest at pr nrest
    have pg := perm_rep gs r
    rw [← ct, hm] at pg
    generalize gs.filter (fun a => !(a == r)) = rest2 at pg
    obtain ⟨W, hW, hWr⟩ := dL_rep r rest m
    have key := rep_cancel r m (A := W) (B := smulL c (mulL (linL (r :: rest2)) B)) (fun x => by
      rw [← hW x]
      have q1 : ev (tk (Kqg1.derivative p)) x = ev (dL (linL (List.replicate (m + 1) r ++ rest))) x := by
        rw [tk_der, dL_congr (q := linL rs) (fun x => by rw [h.eq, ev_lin]), lin_perm pr]
      rw [← q1, e3 x, ← m3 x, spg.eq x, prodL_perm pg, prodL_app, ev_smul, ev_mul, ev_lin, List.replicate_succ]
      simp only [prodL]; grind) r
    rw [hWr, ev_smul, ev_mul, ev_lin] at key
    simp only [prodL] at key
    have n0 : ofQ ((m + 1 : Nat) : Rat) ≠ 0 := by
      have := ofQ_pos (q := ((m + 1 : Nat) : Rat)) (Rat.natCast_pos.mpr (by omega)); grind
    have n1 : prodL rest r ≠ 0 := fun z => nrest (prodL_zero.mp z)
    exact mul_ne n0 n1 (by grind)
end MG

-- part MU
namespace MG
open K
open Kqg1 (Poly trim coefficient)
/-! ## Sturm's count -/
theorem sc_zero (l : List Int) : Kqg1.signChanges (0 :: l) = Kqg1.signChanges l := by
  simp [Kqg1.signChanges]
theorem sc_one (a : Int) : Kqg1.signChanges [a] = 0 := by
  by_cases h : a = 0
  · subst h; rfl
  · simp [Kqg1.signChanges, h]
theorem sc_mid {a : Int} (ha : a ≠ 0) (l : List Int) : Kqg1.signChanges (a :: 0 :: l) = Kqg1.signChanges (a :: l) := by
  simp [Kqg1.signChanges, ha]
theorem sc_two {a b : Int} (ha : a ≠ 0) (hb : b ≠ 0) (l : List Int) : Kqg1.signChanges (a :: b :: l) = (if a = b then 0 else 1) + Kqg1.signChanges (b :: l) := by
  simp only [Kqg1.signChanges, List.filter_cons, bne_iff_ne, ne_eq, ha, hb, not_false_eq_true, if_true, List.drop_succ_cons, List.drop_zero, List.zip_cons_cons]
  by_cases h : a = b
  · simp [h]
  · simp [h]; omega
/-- the sign of a value -/
theorem sign_ofQ (v : Rat) : (Kqg1.sign v = 0 ↔ ofQ v = 0) ∧ (Kqg1.sign v = 1 ↔ 0 < ofQ v) ∧ (Kqg1.sign v = -1 ↔ ofQ v < 0) := by
  have h1 := ofQ_lt (p := v) (q := 0)
  have h2 := ofQ_lt (p := 0) (q := v)
  rw [ofQ0] at h1 h2
  unfold Kqg1.sign
  by_cases z : v = 0
  · subst z
    rw [if_pos rfl, ofQ0]
    refine ⟨by simp, ?_, ?_⟩
    · constructor
      · intro h; omega
      · intro h; grind
    · constructor
      · intro h; omega
      · intro h; grind
  · have nz : ofQ v ≠ 0 := fun q => z (ofQ_inj q)
    rw [if_neg z]
    by_cases l : v < 0
    · rw [if_pos l]
      have := h1.mpr l
      refine ⟨by simp [nz], ?_, ?_⟩
      · constructor
        · intro h; omega
        · intro h; grind
      · simp [this]
    · rw [if_neg l]
      have : 0 < ofQ v := h2.mpr (by grind)
      refine ⟨by simp [nz], by simp [this], ?_⟩
      constructor
      · intro h; omega
      · intro h; grind
/-- roots, up to a factor above 0 -/
def Rt (p rs : List K) : Prop := ∃ c d : K, 0 < c ∧ 0 < d ∧ ∀ x, c * ev p x = d * prodL rs x
theorem Rt.zero {p rs : List K} (h : Rt p rs) {x : K} : ev p x = 0 ↔ x ∈ rs := by
  obtain ⟨c, d, hc, hd, e⟩ := h
  rw [← prodL_zero]
  have := e x
  constructor
  · intro z
    rw [z] at this
    rcases mul_eq_zero (a := d) (b := prodL rs x) (by grind) with q | q
    · grind
    · exact q
  · intro z
    rw [z] at this
    rcases mul_eq_zero (a := c) (b := ev p x) (by grind) with q | q
    · grind
    · exact q
theorem Rt.sg {p rs : List K} (h : Rt p rs) {x : K} (hx : x ∉ rs) : sg (above rs x) (ev p x) := by
  obtain ⟨c, d, hc, hd, e⟩ := h
  have s := sg_mul_pos hd (sg_prod rs x hx)
  rw [← e x] at s
  by_cases k : above rs x % 2 = 0
  · rw [sg_even k] at *
    refine Classical.byContradiction fun n => ?_
    have := mul_nn (a := c) (b := - ev p x) (by grind) (by grind)
    grind
  · rw [sg_odd k] at *
    refine Classical.byContradiction fun n => ?_
    have := mul_nn (a := c) (b := ev p x) (by grind) (by grind)
    grind
theorem Rt.perm {p rs ts : List K} (h : Rt p rs) (hp : rs.Perm ts) : Rt p ts := by
  obtain ⟨c, d, hc, hd, e⟩ := h
  exact ⟨c, d, hc, hd, fun x => by rw [e x, prodL_perm hp]⟩
theorem Sp.rt {p rs : List K} (h : Sp p rs) : Rt p rs := ⟨1, 1, one_pos, one_pos, fun x => by rw [h.eq x]⟩
def sAt (t : Rat) (p : Poly) : Int := Kqg1.signAt p (.at t)
theorem sAt_def (t : Rat) (p : Poly) : sAt t p = Kqg1.sign (Kqg1.evaluate p t) := rfl
theorem sAt_zero {p : Poly} {t : Rat} : sAt t p = 0 ↔ ev (tk p) (ofQ t) = 0 := by
  rw [sAt_def, ev_tk]; exact (sign_ofQ _).1
theorem sAt_sg {p : Poly} {t : Rat} {k : Nat} (h : MG.sg k (ev (tk p) (ofQ t))) : sAt t p = if k % 2 = 0 then 1 else -1 := by
  rw [ev_tk] at h
  by_cases e : k % 2 = 0
  · rw [sg_even e] at h
    rw [if_pos e]; exact (sign_ofQ _).2.1.mpr h
  · rw [sg_odd e] at h
    rw [if_neg e]; exact (sign_ofQ _).2.2.mpr h
theorem sAt_neg {p q : Poly} {t : Rat} {c : K} (hc : 0 < c) (h : c * ev (tk p) (ofQ t) = - ev (tk q) (ofQ t)) : sAt t q = - sAt t p := by
  rw [sAt_def, sAt_def]
  rw [ev_tk, ev_tk] at h
  have sp := sign_ofQ (Kqg1.evaluate p t)
  have sq := sign_ofQ (Kqg1.evaluate q t)
  generalize ofQ (Kqg1.evaluate p t) = u at h sp
  generalize ofQ (Kqg1.evaluate q t) = v at h sq
  rcases Classical.em (u = 0) with z | z
  · rw [sp.1.mpr z, sq.1.mpr (by rw [z] at h; grind)]; rfl
  · rcases Classical.em (0 < u) with q | q
    · rw [sp.2.1.mpr q, sq.2.2.mpr (by have := K.mul_pos hc q; grind)]
    · rw [sp.2.2.mpr (by grind), sq.2.1.mpr (by have := K.mul_pos (a := c) (b := -u) hc (by grind); grind)]; rfl
theorem inf_pos {p : Poly} {n : Nat} (hl : p.length = n + 1) (hp : 0 < cf (tk p) n) : Kqg1.signAt p .plusInfinity = 1 ∧ Kqg1.signAt p .minusInfinity = if n % 2 = 0 then 1 else -1 := by
  rw [cf_tk] at hp
  have s := (sign_ofQ (coefficient p n)).2.1.mpr hp
  have d : Kqg1.degree p = n := by unfold Kqg1.degree; omega
  simp only [Kqg1.signAt, lead_eq p hl, s, d]
  exact ⟨trivial, trivial⟩
/-- the common part of two polynomials that interlace strictly up to it -/
theorem no_common {m : Nat} {q r : List K} {ts : List K} (h : CD m q r) (hq : Rt q ts) (nc : ∀ x, x ∈ ts → ev r x ≠ 0) : ∃ (rs us : List K) (b : K), IL b rs us ∧ Rt q rs ∧ Rt r us ∧ ts.Perm rs := by
  obtain ⟨c, d, g, rs, us, b, hc, hd, e1, e2, il⟩ := CD.split m h
  obtain ⟨c', d', hc', hd', e3⟩ := hq
  have p0 := K.mul_pos hc hd'
  obtain ⟨k, l, gs, r2, kl, pm, eg, e4⟩ := factor ts (c * d') (smulL c' g) (linL rs) (by grind) (fun x => by
    have a := e1 x
    have b := e3 x
    rw [ev_smul, ev_lin]
    have : c' * (c * ev q x) = c * (c' * ev q x) := by grind
    rw [a, b] at this
    grind)
  have nk : k ≠ 0 := fun z => by rw [z] at kl; grind
  have nl : l ≠ 0 := fun z => by rw [z] at kl; grind
  have g0 : gs = [] := by
    match gs, pm, eg with
    | [], _, _ => rfl
    | x :: gs, pm, eg =>
      have hx : x ∈ ts := pm.symm.subset (List.mem_append_left _ List.mem_cons_self)
      have : ev g x = 0 := by
        have := eg x
        rw [ev_smul, prodL_zero.mpr List.mem_cons_self] at this
        rcases mul_eq_zero (a := c') (b := ev g x) (by grind) with q | q
        · grind
        · exact q
      have e := e2 x
      rw [this] at e
      rcases mul_eq_zero (a := d) (b := ev r x) (by grind) with q | q
      · grind
      · exact absurd q (nc x hx)
  subst g0
  have gc : ∀ x, c' * ev g x = k := fun x => by have := eg x; rw [ev_smul] at this; simp only [prodL] at this; grind
  obtain ⟨pr, l1⟩ := prodL_inj rs r2 1 l (by have := one_pos; grind) (fun x => by have := e4 x; rw [ev_lin] at this; grind)
  have pk : 0 < k := by rw [← l1] at kl; grind
  refine ⟨rs, us, b, il, ⟨c' * c, k, K.mul_pos hc' hc, pk, fun x => ?_⟩, ⟨c' * d, k, K.mul_pos hc' hd, pk, fun x => ?_⟩, ?_⟩
  · rw [← gc x]
    have := e1 x
    have e : c' * c * ev q x = c' * (c * ev q x) := by grind
    rw [e, this]; grind
  · rw [← gc x]
    have := e2 x
    have e : c' * d * ev r x = c' * (d * ev r x) := by grind
    rw [e, this]; grind
  · exact (by simpa using pm : ts.Perm r2).trans pr.symm
/-- Sturm's chain of two polynomials that interlace strictly -/
theorem sturm_chain : ∀ (m : Nat) (p q : Poly) (rs ts : List K) (b : K) (fuel : Nat), Tr p → Tr q → CD m (tk p) (tk q) → IL b rs ts → Rt (tk p) rs → Rt (tk q) ts → m + 3 ≤ fuel →
    ∃ C, Kqg1.sturmChainFrom fuel p q = p :: C ∧ (∀ t, Kqg1.signChanges ((p :: C).map (sAt t)) = above rs (ofQ t)) ∧
      Kqg1.signChanges ((p :: C).map (fun f => Kqg1.signAt f .plusInfinity)) = 0 ∧ Kqg1.signChanges ((p :: C).map (fun f => Kqg1.signAt f .minusInfinity)) = m + 1 := by
  intro m
  induction m using Nat.strongRecOn with
  | ind m IH =>
  intro p q rs ts b fuel hp hq cd il rp rq hf
  obtain ⟨f, rfl⟩ : ∃ f, fuel = f + 2 := ⟨fuel - 2, by omega⟩
  have lp : p.length = m + 2 := by rw [← len_tk]; exact cd.lp
  have lq : q.length = m + 1 := by rw [← len_tk]; exact cd.lq
  have neq : q ≠ [] := fun z => by rw [z] at lq; simp at lq
  let r := Kqg1.scale (-1) (Kqg1.remainder p q)
  have tr : Tr r := tr_scale _ _
  have rl := rem_len hp hq neq
  have lr : r.length ≤ m := tr_len tr (k := m) fun i hi => by
    show coefficient (Kqg1.scale _ _) i = 0
    rw [coef_scaleQ, coef_big (p := Kqg1.remainder p q) (i := i) (by omega)]; grind
  have er : ∀ x, ev (tk r) x = - ev (tk (Kqg1.remainder p q)) x := fun x => by
    show ev (tk (Kqg1.scale _ _)) x = _
    rw [tk_scale, show ofQ (-1) = (-1 : K) from rfl]; grind
  have dv := tk_divide p q
  have lquo : (Kqg1.quotient p q).length ≤ 2 := by
    refine tr_len (quo_tr hp) (k := 2) fun i hi => Classical.byContradiction fun nz => ?_
    have trq := quo_tr (q := q) hp
    obtain ⟨n, hn⟩ : ∃ n, (Kqg1.quotient p q).length = n + 1 := Nat.exists_eq_succ_of_ne_zero (fun z => nz (coef_big (by omega)))
    have hn2 : 2 ≤ n := Classical.byContradiction fun c => nz (coef_big (by omega))
    have e := cf_ext (p := addL (mulL (tk (Kqg1.quotient p q)) (tk q)) (tk (Kqg1.remainder p q))) (q := tk p) (fun x => by rw [ev_add, ev_mul, dv x]) (n + m)
    rw [cf_add, cf_mul_top _ _ n m (by rw [len_tk, hn]) (by rw [len_tk, lq]), cf_big (p := tk (Kqg1.remainder p q)) (by rw [len_tk]; omega), cf_big (p := tk p) (by rw [len_tk]; omega)] at e
    have pq := cd.pq
    rcases mul_eq_zero (a := cf (tk (Kqg1.quotient p q)) n) (b := cf (tk q) m) (by grind) with c | c
    · rw [cf_tk] at c
      exact tr_top trq hn (ofQ_inj c)
    · grind
  have equo : ∀ x, ev (tk (Kqg1.quotient p q)) x = cf (tk (Kqg1.quotient p q)) 1 * x + cf (tk (Kqg1.quotient p q)) 0 := fun x => by
    match e : tk (Kqg1.quotient p q) with
    | [] => simp only [ev, cf_nil]; grind
    | [a] => simp only [ev, cf_zero, cf_succ, cf_nil]; grind
    | [a, b] => simp only [ev, cf_zero, cf_succ]; grind
    | a :: b :: c :: l =>
      have := congrArg List.length e
      rw [len_tk] at this
      simp at this; omega
  have main : ∀ x, 1 * ev (tk p) x = (cf (tk (Kqg1.quotient p q)) 1 * x + cf (tk (Kqg1.quotient p q)) 0) * ev (tk q) x - ev (tk r) x := fun x => by
    rw [← equo x, er x, dv x]; grind
  have c1 : Kqg1.sturmChainFrom (f + 2) p q = p :: Kqg1.sturmChainFrom (f + 1) q r := by
    show (if q = [] then _ else _) = _
    rw [if_neg neq]
  have zp : ∀ x, ev (tk q) x = 0 → ev (tk r) x = - ev (tk p) x := fun x z => by
    have := main x; rw [z] at this; grind
  -- the tail's chain: q :: C', its counts, and what stands behind q
  have tail : ∃ C', Kqg1.sturmChainFrom (f + 1) q r = q :: C' ∧ (∀ t, Kqg1.signChanges ((q :: C').map (sAt t)) = above ts (ofQ t)) ∧
      Kqg1.signChanges ((q :: C').map (fun f => Kqg1.signAt f .plusInfinity)) = 0 ∧ Kqg1.signChanges ((q :: C').map (fun f => Kqg1.signAt f .minusInfinity)) = m ∧
      (ts = [] ∨ ∃ C2, C' = r :: C2) := by
    rcases cd.down one_pos main (by rw [len_tk]; exact lr) with z | ⟨k, rfl, cdr⟩
    · have rn := tk_eq_nil tr z
      have t0 : ts = [] := by
        match ts, rq, il with
        | [], _, _ => rfl
        | t :: ts, rq, il =>
          exfalso
          have h1 : ev (tk q) t = 0 := rq.zero.mpr List.mem_cons_self
          have h2 := zp t h1
          rw [z t] at h2
          exact il.apart (rp.zero.mp (by grind)) List.mem_cons_self
      have m0 : m = 0 := by
        obtain ⟨c, d, hc, hd, e⟩ := rp
        have := cf_ext (p := smulL c (tk p)) (q := smulL d (linL rs)) (fun x => by rw [ev_smul, ev_smul, ev_lin, e x]) (m + 1)
        have l := il.len
        rw [t0] at l
        rw [cf_smul, cf_smul] at this
        have pp := cd.pp
        refine Classical.byContradiction fun n => ?_
        rw [cf_big (p := linL rs) (by rw [len_lin, l]; simp; omega)] at this
        have := K.mul_pos hc pp
        grind
      refine ⟨[], ?_, fun t => ?_, ?_, ?_, .inl t0⟩
      · rw [rn]
        show (if ([] : Poly) = [] then _ else _) = _
        rw [if_pos rfl]
      · rw [t0]; exact sc_one _
      · exact sc_one _
      · rw [m0]; exact sc_one _
    · obtain ⟨ts', us, b', il', rq', rr, pm⟩ := no_common cdr rq (fun x hx z => by
        have h2 := zp x (rq.zero.mpr hx)
        rw [z] at h2
        exact il.apart (rp.zero.mp (by grind)) hx)
      obtain ⟨C', e1, e2, e3, e4⟩ := IH k (by omega) q r ts' us b' (f + 1) hq tr cdr il' rq' rr (by omega)
      refine ⟨C', e1, fun t => by rw [e2 t, above_perm pm], e3, e4, ?_⟩
      right
      have ner : r ≠ [] := fun z => by
        have := cdr.lq
        rw [z] at this; simp [tk] at this
      obtain ⟨f', rfl⟩ : ∃ f', f = f' + 1 := ⟨f - 1, by omega⟩
      have e5 : Kqg1.sturmChainFrom (f' + 1 + 1) q r = q :: r :: (if Kqg1.scale (-1) (Kqg1.remainder q r) = [] then [] else Kqg1.sturmChainFrom f' (Kqg1.scale (-1) (Kqg1.remainder q r)) (Kqg1.scale (-1) (Kqg1.remainder r (Kqg1.scale (-1) (Kqg1.remainder q r))))) := by
        show (if r = [] then _ else q :: (if _ = [] then [r] else r :: _)) = _
        rw [if_neg ner]
        split <;> rfl
      rw [e1] at e5
      exact ⟨_, (List.cons.inj e5).2⟩
  obtain ⟨C', e1, e2, e3, e4, e5⟩ := tail
  refine ⟨q :: C', by rw [c1, e1], fun t => ?_, ?_, ?_⟩
  · have ih := e2 t
    by_cases z : ev (tk p) (ofQ t) = 0
    · have s0 : sAt t p = 0 := sAt_zero.mpr z
      rw [List.map_cons, s0, sc_zero, ih]
      exact (il.at_root (rp.zero.mp z)).symm
    · have np : sAt t p ≠ 0 := fun w => z (sAt_zero.mp w)
      have sp := sAt_sg (rp.sg (fun w => z (rp.zero.mpr w)))
      by_cases y : ev (tk q) (ofQ t) = 0
      · have s0 : sAt t q = 0 := sAt_zero.mpr y
        have ht := rq.zero.mp y
        rcases e5 with e5 | ⟨C2, e5⟩
        · rw [e5] at ht; simp at ht
        · rw [List.map_cons, s0, sc_zero] at ih
          rw [List.map_cons, List.map_cons, s0, sc_mid np, e5, List.map_cons]
          have sr : sAt t r = - sAt t p := sAt_neg one_pos (by rw [zp _ y]; grind)
          rw [sc_two np (by rw [sr]; omega), if_neg (by rw [sr]; omega)]
          rw [e5, List.map_cons] at ih
          rw [ih, il.at_inner ht]; omega
      · have nq : sAt t q ≠ 0 := fun w => y (sAt_zero.mp w)
        have sq := sAt_sg (rq.sg (fun w => y (rq.zero.mpr w)))
        have cnt := il.count (ofQ t)
        rw [List.map_cons, List.map_cons, sc_two np nq, ← List.map_cons, ih, sp, sq]
        by_cases h1 : above rs (ofQ t) % 2 = 0
        · by_cases h2 : above ts (ofQ t) % 2 = 0
          · rw [if_pos h1, if_pos h2, if_pos rfl]; omega
          · rw [if_pos h1, if_neg h2, if_neg (by decide)]; omega
        · by_cases h2 : above ts (ofQ t) % 2 = 0
          · rw [if_neg h1, if_pos h2, if_neg (by decide)]; omega
          · rw [if_neg h1, if_neg h2, if_pos rfl]; omega
  · have ip := inf_pos lp cd.pp
    have iq := inf_pos lq cd.pq
    rw [List.map_cons, List.map_cons, ip.1, iq.1, sc_two (by decide) (by decide), if_pos rfl]
    rw [List.map_cons, iq.1] at e3
    omega
  · have ip := inf_pos lp cd.pp
    have iq := inf_pos lq cd.pq
    rw [List.map_cons, iq.2] at e4
    rw [List.map_cons, List.map_cons, ip.2, iq.2]
    by_cases h : m % 2 = 0
    · rw [if_pos h] at *
      rw [if_neg (by omega), sc_two (by decide) (by decide), e4, if_neg (by decide)]; omega
    · rw [if_neg h] at *
      rw [if_pos (by omega), sc_two (by decide) (by decide), e4, if_neg (by decide)]; omega
/-- the chain of a polynomial with different roots -/
theorem sturm_of {s : Poly} {ss : List K} (h : Sp (tk s) ss) (hn : ss.Nodup) : ∃ C, Kqg1.sturmChainFrom (s.length + 1) s (Kqg1.derivative s) = s :: C ∧ (∀ t, Kqg1.signChanges ((s :: C).map (sAt t)) = above ss (ofQ t)) ∧
      Kqg1.signChanges ((s :: C).map (fun f => Kqg1.signAt f .plusInfinity)) = 0 ∧ Kqg1.signChanges ((s :: C).map (fun f => Kqg1.signAt f .minusInfinity)) = ss.length := by
  obtain ⟨ls, ts, trs⟩ := h.trq
  have ld := len_der trs ls
  rcases e : ss.length with _ | m
  · have s0 : ss = [] := List.eq_nil_of_length_eq_zero e
    have d0 : Kqg1.derivative s = [] := List.eq_nil_of_length_eq_zero (by omega)
    refine ⟨[], ?_, fun t => ?_, sc_one _, sc_one _⟩
    · rw [d0, ls]
      show (if ([] : Poly) = [] then _ else _) = _
      rw [if_pos rfl]
    · rw [s0]; exact sc_one _
  · have cd : CD m (tk s) (tk (Kqg1.derivative s)) := by
      have n1 : (0 : K) < ((m + 1 : Nat) : K) := by
        rw [← ofQ_nat]; exact ofQ_pos (Rat.natCast_pos.mpr (by omega))
      refine ⟨by rw [len_tk]; omega, by rw [len_tk]; omega, ?_, ?_, 1, 1, om ss, one_pos, one_pos, fun f hf => by have := om_len ss f hf; omega, fun x y => ?_⟩
      · rw [cf_tk, ← e, ts]; exact one_pos
      · rw [cf_tk, coef_derQ, ← e, ts, e, ofQ_mul]
        have : ofQ 1 = (1 : K) := rfl
        rw [this]
        have n2 : (0 : K) < ofQ ((m + 1 : Nat) : Rat) := n1
        grind
      · have := om_cd ss x y
        rw [tk_der, tk_der, dL_congr (q := linL ss) (fun x => by rw [h.eq, ev_lin]) x, dL_congr (q := linL ss) (fun x => by rw [h.eq, ev_lin]) y, h.eq, h.eq, this]
    obtain ⟨rs, us, b, il, r1, r2, pm⟩ := no_common cd h.rt (fun x hx z => by
      rw [tk_der, dL_congr (q := linL ss) (fun x => by rw [h.eq, ev_lin]) x] at z
      exact der_at hn hx z)
    obtain ⟨C, c1, c2, c3, c4⟩ := sturm_chain m s (Kqg1.derivative s) rs us b (s.length + 1) trs (tr_der s) cd il r1 r2 (by omega)
    exact ⟨C, c1, fun t => by rw [c2 t, above_perm pm], c3, c4⟩
end MG

-- part MV
namespace MG
open K
open Kqg1 (Poly trim coefficient)
/-! ## Counting by the layers -/
theorem nfold : ∀ (l : List Nat) (a : Nat), l.foldl (fun x y => x + y) a = a + l.foldl (fun x y => x + y) 0
  | [], a => rfl
  | b :: l, a => by
    simp only [List.foldl_cons]
    rw [nfold l (a + b), nfold l (0 + b)]; omega
/-- what the chains of the layers tell of a polynomial with the roots rs -/
structure Told (chains : List (List Poly)) (rs : List K) : Prop where
  up : ∀ t, Kqg1.countByChains chains (.at t) .plusInfinity = above rs (ofQ t)
  low : ∀ t, Kqg1.countByChains chains .minusInfinity (.at t) = rs.length - above rs (ofQ t)
  all : Kqg1.countByChains chains .minusInfinity .plusInfinity = rs.length
  mult : ∀ t, Kqg1.multiplicityByChains chains t = rs.count (ofQ t)
theorem told_layers : ∀ (fuel : Nat) (p : Poly) (rs : List K), Sp (tk p) rs → rs.length ≤ fuel → Told ((Kqg1.multiplicityLayers fuel p).map Kqg1.sturmChain) rs
  | 0, p, rs, h, hf => by
    have r0 : rs = [] := List.eq_nil_of_length_eq_zero (by omega)
    subst r0
    exact ⟨fun t => rfl, fun t => rfl, rfl, fun t => rfl⟩
  | fuel + 1, p, rs, h, hf => by
    obtain ⟨lp, tp, trp⟩ := h.trq
    show Told (List.map _ (if p.length ≤ 1 then [] else _)) rs
    by_cases c : p.length ≤ 1
    · have r0 : rs = [] := List.eq_nil_of_length_eq_zero (by omega)
      subst r0
      rw [if_pos c]
      exact ⟨fun t => rfl, fun t => rfl, rfl, fun t => rfl⟩
    · rw [if_neg c]
      obtain ⟨ss, gs, hs, hg, pm, nd, lt, _⟩ := layer h (fun z => by rw [z] at lp; simp at lp; omega)
      have ih := told_layers fuel _ gs hg (by omega)
      obtain ⟨C, c1, c2, c3, c4⟩ := sturm_of hs nd
      have sc : Kqg1.sturmChain p = Kqg1.squarefree p :: C := c1
      rw [List.map_cons, sc]
      have cb : ∀ a b, Kqg1.countByChains ((Kqg1.squarefree p :: C) :: (Kqg1.multiplicityLayers fuel (Kqg1.gcd p (Kqg1.derivative p))).map Kqg1.sturmChain) a b = Kqg1.countByChain (Kqg1.squarefree p :: C) a b + Kqg1.countByChains ((Kqg1.multiplicityLayers fuel (Kqg1.gcd p (Kqg1.derivative p))).map Kqg1.sturmChain) a b := fun a b => by
        unfold Kqg1.countByChains
        rw [List.map_cons, List.foldl_cons, nfold]; omega
      have len : rs.length = ss.length + gs.length := by rw [pm.length_eq, List.length_append]
      have ab : ∀ x, above rs x = above ss x + above gs x := fun x => by rw [above_perm pm, above_app]
      refine ⟨fun t => ?_, fun t => ?_, ?_, fun t => ?_⟩
      · rw [cb, ih.up, ab]
        unfold Kqg1.countByChain Kqg1.changesAt
        rw [c3, show Kqg1.signChanges (List.map (fun q => Kqg1.signAt q (.at t)) _) = _ from c2 t]; rfl
      · rw [cb, ih.low, ab, len]
        unfold Kqg1.countByChain Kqg1.changesAt
        rw [c4, show Kqg1.signChanges (List.map (fun q => Kqg1.signAt q (.at t)) _) = _ from c2 t]
        have := above_le ss (ofQ t)
        have := above_le gs (ofQ t)
        omega
      · rw [cb, ih.all, len]
        unfold Kqg1.countByChain Kqg1.changesAt
        rw [c3, c4]; rfl
      · have := ih.mult t
        unfold Kqg1.multiplicityByChains at *
        rw [List.filter_cons, pm.count_eq, List.count_append, ← this]
        have hd : (Kqg1.squarefree p :: C).headD [] = Kqg1.squarefree p := rfl
        have cs : ss.count (ofQ t) ≤ 1 := List.nodup_iff_count.mp nd _
        have iff : (Kqg1.evaluate (Kqg1.squarefree p) t == 0) = true ↔ ofQ t ∈ ss := by
          rw [beq_iff_eq, ← hs.rt.zero, ev_tk]
          exact ⟨fun z => by rw [z]; rfl, fun z => ofQ_inj z⟩
        rw [hd]
        by_cases e : ofQ t ∈ ss
        · rw [if_pos (iff.mpr e), List.length_cons]
          have := List.count_pos_iff.mpr e
          omega
        · rw [if_neg (fun z => e (iff.mp z)), List.count_eq_zero.mpr e]; omega
theorem told_of {p : Poly} {rs : List K} (h : Sp (tk p) rs) : Told (Kqg1.layerChains p) rs := told_layers _ p rs h (by have := h.trq.1; omega)
noncomputable def belw (l : List K) (x : K) : Nat := l.countP (fun r => decide (r < x))
theorem belw_atl (l : List K) (x : K) : belw l x + atl l x = l.length := by
  induction l with
  | nil => rfl
  | cons a l ih =>
    rw [atl_cons, List.length_cons]
    have : belw (a :: l) x = belw l x + if a < x then 1 else 0 := by simp [belw, List.countP_cons]
    rw [this]
    by_cases c : x ≤ a
    · rw [if_pos c, if_neg (by grind)]; omega
    · rw [if_neg c, if_pos (by grind)]; omega
theorem Told.below {chains : List (List Poly)} {rs : List K} (h : Told chains rs) (t : Rat) : Kqg1.countBelowByChains chains t = rs.length - atl rs (ofQ t) := by
  unfold Kqg1.countBelowByChains
  rw [h.low, h.mult, atl_eq]
  omega
theorem atl_le (l : List K) (x : K) : atl l x ≤ l.length := List.countP_le_length
theorem atl_anti (l : List K) {x y : K} (h : x ≤ y) : atl l y ≤ atl l x := by
  apply List.countP_mono_left
  intro a _ q
  simp only [decide_eq_true_eq] at *
  grind
theorem above_anti (l : List K) {x y : K} (h : x ≤ y) : above l y ≤ above l x := by
  apply List.countP_mono_left
  intro a _ q
  simp only [decide_eq_true_eq] at *
  grind
/-! ### bisection -/
/-- the one number at which a property that falls once, falls -/
theorem bisect_is (f : Int → Bool) (z : Int) (hz : ∀ m, f m = true ↔ m ≤ z) : ∀ (fuel : Nat) (low high : Int), low ≤ z → z < high → high - low ≤ 2 ^ fuel → Kqg1.bisect f fuel low high = z
  | 0, low, high, h1, h2, h3 => by
    show low = z
    have : (2 : Int) ^ 0 = 1 := rfl
    omega
  | fuel + 1, low, high, h1, h2, h3 => by
    show (if high ≤ low + 1 then low else _) = z
    have p : (2 : Int) ^ (fuel + 1) = 2 * 2 ^ fuel := by rw [Int.pow_succ]; omega
    by_cases c : high ≤ low + 1
    · rw [if_pos c]; omega
    · rw [if_neg c]
      show (if f ((low + high) / 2) = true then _ else _) = z
      by_cases d : f ((low + high) / 2) = true
      · rw [if_pos d]
        exact bisect_is f z hz fuel _ _ ((hz _).mp d) h2 (by omega)
      · rw [if_neg d]
        have : ¬ (low + high) / 2 ≤ z := fun q => d ((hz _).mpr q)
        exact bisect_is f z hz fuel _ _ h1 (by omega) (by omega)
theorem lt_two_log (n : Nat) : n < 2 ^ (Nat.log2 n + 1) := Nat.lt_log2_self
/-- a whole number below which a root lies, at a scale -/
theorem floor_ex (rs : List K) (k : Nat) (hk : k < rs.length) {s : Rat} (hs : 0 < s) : ∃ z : Int, ∀ m : Int, (rs.length - k ≤ atl rs (ofQ ((m : Rat) / s))) ↔ m ≤ z := by
  -- some m has it, some has not
  obtain ⟨B, hB, hb⟩ : ∃ B : Rat, 0 < B ∧ ∀ r, r ∈ rs → -ofQ B < r ∧ r < ofQ B := by
    clear hk
    induction rs with
    | nil => exact ⟨1, by decide, fun r h => by simp at h⟩
    | cons a l ih =>
      obtain ⟨B, hB, hb⟩ := ih
      obtain ⟨C, hC, hc⟩ := le_rat a
      obtain ⟨D, hD, hd⟩ := le_rat (-a)
      refine ⟨B + C + D, by grind, fun r hr => ?_⟩
      have p1 := ofQ_pos hB
      have p2 := ofQ_pos hC
      have p3 := ofQ_pos hD
      rw [ofQ_add, ofQ_add]
      rcases List.mem_cons.mp hr with q | q
      · subst q; constructor <;> grind
      · have := hb r q; constructor <;> grind
  have div_le : ∀ {m : Int} {x : Rat}, x * s ≤ (m : Rat) ↔ x ≤ (m : Rat) / s := fun {m x} => by
    have := Rat.div_lt_iff (a := (m : Rat)) (b := s) (c := x) hs
    rw [← Rat.not_lt, ← Rat.not_lt, this]
  have mono : ∀ {m m' : Int}, m ≤ m' → ofQ ((m : Rat) / s) ≤ ofQ ((m' : Rat) / s) := fun {m m'} h => by
    rw [ofQ_le, ← div_le, Rat.div_mul_cancel (by grind)]
    exact Rat.intCast_le_intCast.mpr h
  -- up from a low number
  obtain ⟨N, hN⟩ : ∃ N : Nat, B * s < (N : Rat) := by
    refine ⟨((B * s).floor + 1).toNat, ?_⟩
    have h1 := Rat.lt_floor_add_one (B * s)
    have h2 : (((B * s).floor + 1 : Int) : Rat) ≤ ((((B * s).floor + 1).toNat : Nat) : Rat) := by
      rw [← Rat.intCast_natCast, Rat.intCast_le_intCast]; omega
    grind
  have lowOk : rs.length - k ≤ atl rs (ofQ (((-(N : Int) : Int) : Rat) / s)) := by
    have : atl rs (ofQ (((-(N : Int) : Int) : Rat) / s)) = rs.length := by
      simp only [atl, List.countP_eq_length, decide_eq_true_eq]
      intro r hr
      have h1 := (hb r hr).1
      have h2 : ofQ (((-(N : Int) : Int) : Rat) / s) ≤ ofQ (-B) := by
        rw [ofQ_le]
        have := Rat.lt_div_iff (a := -B) (b := ((-(N : Int) : Int) : Rat)) (c := s) hs
        rw [← Rat.not_lt, this, Rat.intCast_neg, Rat.intCast_natCast]
        grind
      rw [ofQ_neg] at h2
      grind
    omega
  have highNo : ¬ rs.length - k ≤ atl rs (ofQ (((N : Int) : Rat) / s)) := by
    have : atl rs (ofQ (((N : Int) : Rat) / s)) = 0 := atl_zero fun r hr => by
      have h1 := (hb r hr).2
      have h2 : ofQ B ≤ ofQ (((N : Int) : Rat) / s) := by
        rw [ofQ_le, ← div_le, Rat.intCast_natCast]; grind
      grind
    omega
  -- count up
  have walk : ∀ j : Nat, (rs.length - k ≤ atl rs (ofQ (((-(N : Int) + j : Int) : Rat) / s))) ∨ ∃ z : Int, (rs.length - k ≤ atl rs (ofQ ((z : Rat) / s))) ∧ ¬ (rs.length - k ≤ atl rs (ofQ (((z + 1 : Int) : Rat) / s))) := by
    intro j
    induction j with
    | zero => left; simpa using lowOk
    | succ j ih =>
      rcases ih with h | h
      · by_cases c : rs.length - k ≤ atl rs (ofQ (((-(N : Int) + (j + 1 : Nat) : Int) : Rat) / s))
        · exact .inl c
        · exact .inr ⟨_, h, by rw [show (-(N : Int) + j + 1 : Int) = -(N : Int) + ((j + 1 : Nat) : Int) by omega]; exact c⟩
      · exact .inr h
  rcases walk (N + N) with h | ⟨z, h1, h2⟩
  · exfalso
    rw [show (-(N : Int) + ((N + N : Nat) : Int) : Int) = (N : Int) by omega] at h
    exact highNo h
  · refine ⟨z, fun m => ⟨fun h => ?_, fun h => ?_⟩⟩
    · refine Classical.byContradiction fun c => h2 ?_
      have := atl_anti rs (mono (m := z + 1) (m' := m) (by omega))
      omega
    · have := atl_anti rs (mono h)
      omega
/-! ### Cauchy's bound -/
theorem natAbs_le_ceiling (x : Rat) : x ≤ (Kqg1.ceiling x : Rat) := by
  unfold Kqg1.ceiling
  have hd : 0 < (x.den : Int) := by have := x.den_pos; omega
  have h1 : x.num ≤ ((x.num + (x.den : Int) - 1) / (x.den : Int)) * (x.den : Int) := by
    have := Int.emod_add_mul_ediv (x.num + (x.den : Int) - 1) (x.den : Int)
    have m := Int.emod_lt_of_pos (x.num + (x.den : Int) - 1) hd
    have : (x.den : Int) * ((x.num + (x.den : Int) - 1) / (x.den : Int)) = ((x.num + (x.den : Int) - 1) / (x.den : Int)) * (x.den : Int) := Int.mul_comm _ _
    omega
  have h2 : ((x.num + (x.den : Int) - 1) / (x.den : Int)) ≤ (((x.num + (x.den : Int) - 1) / (x.den : Int)).toNat : Int) := by omega
  have h3 : x.num ≤ (((x.num + (x.den : Int) - 1) / (x.den : Int)).toNat : Int) * (x.den : Int) := Int.le_trans h1 (Int.mul_le_mul_of_nonneg_right h2 (by omega))
  rw [Rat.le_iff, Rat.num_natCast, Rat.den_natCast]
  simpa using h3
theorem absolute_is (x : Rat) : x ≤ Kqg1.absolute x ∧ -x ≤ Kqg1.absolute x ∧ 0 ≤ Kqg1.absolute x := by
  unfold Kqg1.absolute
  split <;> refine ⟨?_, ?_, ?_⟩ <;> grind
theorem foldl_max_ge : ∀ (l : List Rat) (a : Rat), a ≤ l.foldl (fun x y => if x < y then y else x) a ∧ ∀ c, c ∈ l → c ≤ l.foldl (fun x y => if x < y then y else x) a
  | [], a => ⟨by simp, fun c h => by simp at h⟩
  | b :: l, a => by
    rw [List.foldl_cons]
    have ih := foldl_max_ge l (if a < b then b else a)
    refine ⟨?_, fun c hc => ?_⟩
    · have := ih.1; split at this <;> grind
    · rcases List.mem_cons.mp hc with q | q
      · subst q; have := ih.1; split at this <;> grind
      · exact ih.2 c q
/-- what a bound of the coefficients says of the rest of a polynomial -/
theorem cauchy_low {M x : K} (hM : 0 ≤ M) (hx : M + 1 ≤ x) : ∀ p : List K, (∀ c, c ∈ p → -M ≤ c ∧ c ≤ M) → ∀ n, p.length = n + 1 → cf p n = 1 → 1 ≤ ev p x
  | [], _, n, h, _ => by simp at h
  | [c], hc, n, h, ht => by
    have : n = 0 := by simp at h; omega
    subst this
    rw [cf_zero] at ht
    simp only [ev]; grind
  | c :: d :: p, hc, 0, h, _ => by simp at h
  | c :: d :: p, hc, n + 1, h, ht => by
    have ih := cauchy_low hM hx (d :: p) (fun e he => hc e (List.mem_cons_of_mem _ he)) n (by simp at *; omega) (by rwa [cf_succ] at ht)
    have b := hc c List.mem_cons_self
    have m := mul_nn (a := x) (b := ev (d :: p) x - 1) (by grind) (by grind)
    show 1 ≤ c + x * ev (d :: p) x
    grind
theorem smul_mem {c : K} : ∀ {p : List K} {a : K}, a ∈ smulL c p → ∃ b, b ∈ p ∧ a = c * b
  | [], a, h => by simp [smulL] at h
  | d :: p, a, h => by
    simp only [smulL] at h
    rcases List.mem_cons.mp h with q | q
    · exact ⟨d, List.mem_cons_self, q⟩
    · obtain ⟨b, h1, h2⟩ := smul_mem q
      exact ⟨b, List.mem_cons_of_mem _ h1, h2⟩
theorem alt_mem : ∀ {p : List K} {a : K}, a ∈ altL p → ∃ b, b ∈ p ∧ (a = b ∨ a = -b)
  | [], a, h => by simp [altL] at h
  | d :: p, a, h => by
    simp only [altL] at h
    rcases List.mem_cons.mp h with q | q
    · exact ⟨d, List.mem_cons_self, .inl q⟩
    · obtain ⟨b, h1, h2⟩ := smul_mem q
      obtain ⟨e, h3, h4⟩ := alt_mem h1
      refine ⟨e, List.mem_cons_of_mem _ h3, ?_⟩
      rcases h4 with h4 | h4
      · right; rw [h2, h4]; grind
      · left; rw [h2, h4]; grind
theorem root_bound {p : Poly} {rs : List K} (h : Sp (tk p) rs) : ∀ r, r ∈ rs → -ofQ (Kqg1.rootBound p : Rat) < r ∧ r < ofQ (Kqg1.rootBound p : Rat) := by
  obtain ⟨lp, tp, trp⟩ := h.trq
  let M : Rat := ((Kqg1.ceiling ((p.map fun c => Kqg1.absolute (c / Kqg1.leadingCoefficient p)).foldl (fun x y => if x < y then y else x) 0) : Nat) : Rat)
  have hM : ∀ c, c ∈ p → -M ≤ c ∧ c ≤ M := fun c hc => by
    have l1 : Kqg1.leadingCoefficient p = 1 := by rw [lead_eq p lp, tp]
    have a := absolute_is (c / Kqg1.leadingCoefficient p)
    have f := (foldl_max_ge (p.map fun c => Kqg1.absolute (c / Kqg1.leadingCoefficient p)) 0).2 _ (List.mem_map_of_mem hc)
    have e := natAbs_le_ceiling ((p.map fun c => Kqg1.absolute (c / Kqg1.leadingCoefficient p)).foldl (fun x y => if x < y then y else x) 0)
    have d : c / Kqg1.leadingCoefficient p = c := by rw [l1]; grind
    rw [d] at a
    rw [d] at f
    show -M ≤ c ∧ c ≤ M
    constructor <;> grind
  have M0 : (0 : Rat) ≤ M := Rat.natCast_nonneg
  have rb : ((Kqg1.rootBound p : Nat) : Rat) = M + 1 := by
    unfold Kqg1.rootBound
    rw [Rat.natCast_add]; rfl
  have mK : ∀ c, c ∈ tk p → -ofQ M ≤ c ∧ c ≤ ofQ M := fun c hc => by
    obtain ⟨d, hd, rfl⟩ := List.mem_map.mp hc
    have := hM d hd
    rw [← ofQ_neg]
    exact ⟨ofQ_le.mpr this.1, ofQ_le.mpr this.2⟩
  have m0 : (0 : K) ≤ ofQ M := by rw [← ofQ0]; exact ofQ_le.mpr M0
  have e : ofQ (M + 1) = ofQ M + 1 := by rw [ofQ_add]; rfl
  rw [rb, e]
  intro r hr
  have z : ev (tk p) r = 0 := h.rt.zero.mpr hr
  have op := one_pos
  constructor
  · refine Classical.byContradiction fun c => ?_
    by_cases par : rs.length % 2 = 0
    · have := cauchy_low m0 (x := -r) (by grind) (altL (tk p)) (fun a ha => by
        obtain ⟨b, h1, h2⟩ := alt_mem ha
        have := mK b h1
        rcases h2 with h2 | h2 <;> constructor <;> grind) rs.length (by rw [len_alt, len_tk, lp]) (by rw [cf_alt, if_pos par, h.top])
      rw [ev_alt, show - -r = r by grind, z] at this
      grind
    · have := cauchy_low m0 (x := -r) (by grind) (smulL (-1) (altL (tk p))) (fun a ha => by
        obtain ⟨b', h0, h0'⟩ := smul_mem ha
        obtain ⟨b, h1, h2⟩ := alt_mem h0
        have := mK b h1
        rcases h2 with h2 | h2 <;> constructor <;> grind) rs.length (by rw [len_smul, len_alt, len_tk, lp]) (by rw [cf_smul, cf_alt, if_neg par, h.top]; grind)
      rw [ev_smul, ev_alt, show - -r = r by grind, z] at this
      grind
  · refine Classical.byContradiction fun c => ?_
    have := cauchy_low m0 (x := r) (by grind) (tk p) mK rs.length (by rw [len_tk, lp]) h.top
    rw [z] at this
    grind
end MG

-- part MW
namespace MG
open K
open Kqg1 (Poly trim coefficient)
/-! ## The floor of a root -/
def IsFl (rs : List K) (s : Rat) (k : Nat) (z : Int) : Prop := ∀ m : Int, (rs.length - k ≤ atl rs (ofQ ((m : Rat) / s))) ↔ m ≤ z
theorem IsFl.one {rs : List K} {s : Rat} {k : Nat} {z y : Int} (h1 : IsFl rs s k z) (h2 : IsFl rs s k y) : z = y := by
  have a := (h1 z).mpr (Int.le_refl z)
  have b := (h2 z).mp a
  have c := (h2 y).mpr (Int.le_refl y)
  have d := (h1 y).mp c
  omega
theorem two_pow_pos (b : Nat) : (0 : Rat) < ((2 ^ b : Nat) : Rat) := Rat.natCast_pos.mpr (Nat.two_pow_pos b)
theorem floor_chains {chains : List (List Poly)} {rs : List K} (h : Told chains rs) {bound k bits : Nat} (hb : ∀ r, r ∈ rs → -ofQ (bound : Rat) < r ∧ r < ofQ (bound : Rat)) (hk : k < rs.length) :
    IsFl rs ((2 ^ bits : Nat) : Rat) k (Kqg1.rootFloorByChains chains bound k bits) := by
  obtain ⟨z, hz⟩ := floor_ex rs k hk (two_pow_pos bits)
  have key : ∀ m : Int, decide (Kqg1.countBelowByChains chains (Kqg1.dyadic m bits) ≤ k) = true ↔ m ≤ z := fun m => by
    rw [decide_eq_true_eq, h.below, ← hz m]
    have := atl_le rs (ofQ (Kqg1.dyadic m bits))
    unfold Kqg1.dyadic at *
    omega
  have sp := two_pow_pos bits
  have e : Kqg1.rootFloorByChains chains bound k bits = z := by
    unfold Kqg1.rootFloorByChains
    refine bisect_is _ z key _ _ _ ?_ ?_ ?_
    · rw [← hz]
      have : atl rs (ofQ (((-((bound * 2 ^ bits + 1 : Nat) : Int) : Int) : Rat) / ((2 ^ bits : Nat) : Rat))) = rs.length := by
        simp only [atl, List.countP_eq_length, decide_eq_true_eq]
        intro r hr
        have h1 := (hb r hr).1
        have h2 : ofQ (((-((bound * 2 ^ bits + 1 : Nat) : Int) : Int) : Rat) / ((2 ^ bits : Nat) : Rat)) ≤ ofQ (-(bound : Rat)) := by
          rw [ofQ_le]
          have := Rat.lt_div_iff (a := -(bound : Rat)) (b := ((-((bound * 2 ^ bits + 1 : Nat) : Int) : Int) : Rat)) sp
          rw [← Rat.not_lt, this, Rat.intCast_neg, Rat.intCast_natCast, Rat.natCast_add, Rat.natCast_mul]
          have : ((1 : Nat) : Rat) = 1 := rfl
          rw [this]; grind
        rw [ofQ_neg] at h2
        grind
      omega
    · refine Classical.byContradiction fun c => ?_
      have := (hz ((bound * 2 ^ bits + 1 : Nat) : Int)).mpr (by omega)
      have z0 : atl rs (ofQ ((((bound * 2 ^ bits + 1 : Nat) : Int) : Rat) / ((2 ^ bits : Nat) : Rat))) = 0 := atl_zero fun r hr => by
        have h1 := (hb r hr).2
        have h2 : ofQ (bound : Rat) ≤ ofQ ((((bound * 2 ^ bits + 1 : Nat) : Int) : Rat) / ((2 ^ bits : Nat) : Rat)) := by
          rw [ofQ_le]
          have := Rat.div_lt_iff (a := (((bound * 2 ^ bits + 1 : Nat) : Int) : Rat)) (c := (bound : Rat)) sp
          rw [← Rat.not_lt, this, Rat.intCast_natCast, Rat.natCast_add, Rat.natCast_mul]
          have : ((1 : Nat) : Rat) = 1 := rfl
          rw [this]; grind
        grind
      rw [z0] at this
      omega
    · have := lt_two_log (2 * (bound * 2 ^ bits + 1))
      have e : ((2 : Int) ^ (Nat.log2 (2 * (bound * 2 ^ bits + 1)) + 2)) = ((2 ^ (Nat.log2 (2 * (bound * 2 ^ bits + 1)) + 2) : Nat) : Int) := by
        rw [Int.natCast_pow]; rfl
      rw [e]
      have e2 : 2 ^ (Nat.log2 (2 * (bound * 2 ^ bits + 1)) + 2) = 2 * 2 ^ (Nat.log2 (2 * (bound * 2 ^ bits + 1)) + 1) := by
        rw [Nat.pow_succ]; omega
      rw [e2]
      omega
  rw [e]
  exact hz
theorem rootFloor_is {p : Poly} {rs : List K} (h : Sp (tk p) rs) {k bits : Nat} (hk : k < rs.length) : IsFl rs ((2 ^ bits : Nat) : Rat) k (Kqg1.rootFloor p k bits) :=
  floor_chains (told_of h) (root_bound h) hk
theorem realRooted_is {p : Poly} {rs : List K} (h : Sp (tk p) rs) : Kqg1.isRealRooted p = true := by
  obtain ⟨lp, tp, trp⟩ := h.trq
  unfold Kqg1.isRealRooted Kqg1.countRoots Kqg1.degree
  rw [(told_of h).all, lp]
  have : p ≠ [] := fun z => by rw [z] at lp; simp at lp
  simp [this]
/-! ## The program's lists of whole numbers -/
def tq (l : List Int) : List Rat := l.map (fun (z : Int) => (z : Rat))
def tz (l : List Int) : List K := tk (tq l)
def ic (z : Int) : K := ofQ (z : Rat)
theorem tz_cons (c : Int) (l : List Int) : tz (c :: l) = ic c :: tz l := rfl
theorem tz_nil : tz [] = [] := rfl
theorem len_tz (l : List Int) : (tz l).length = l.length := by simp [tz, tk, tq]
theorem ic_add (a b : Int) : ic (a + b) = ic a + ic b := by unfold ic; rw [Rat.intCast_add, ofQ_add]
theorem ic_mul (a b : Int) : ic (a * b) = ic a * ic b := by unfold ic; rw [Rat.intCast_mul, ofQ_mul]
theorem ic_neg (a : Int) : ic (-a) = - ic a := by unfold ic; rw [Rat.intCast_neg, ofQ_neg]
theorem ic_sub (a b : Int) : ic (a - b) = ic a - ic b := by rw [Int.sub_eq_add_neg, ic_add, ic_neg]; grind
theorem ic_lt {a b : Int} : ic a < ic b ↔ a < b := by unfold ic; rw [ofQ_lt, Rat.intCast_lt_intCast]
theorem ic_inj {a b : Int} (h : ic a = ic b) : a = b := Rat.intCast_inj.mp (ofQ_inj h)
theorem ic_zero : ic 0 = 0 := rfl
theorem ic_one : ic 1 = 1 := rfl
theorem ic_eq_zero {a : Int} : ic a = 0 ↔ a = 0 := ⟨fun h => ic_inj h, fun h => by rw [h]; rfl⟩
theorem ic_pos {a : Int} : 0 < ic a ↔ 0 < a := by rw [← ic_zero, ic_lt]
theorem ic_le {a b : Int} : ic a ≤ ic b ↔ a ≤ b := by
  have := ic_lt (a := b) (b := a)
  constructor
  · intro h; refine Classical.byContradiction fun c => ?_
    have := this.mpr (by omega); grind
  · intro h; refine Classical.byContradiction fun c => ?_
    have := this.mp (by grind); omega
theorem tz_inj : ∀ {p q : List Int}, tz p = tz q → p = q
  | [], [], _ => rfl
  | [], b :: q, h => by simp [tz_cons, tz_nil] at h
  | a :: p, [], h => by simp [tz_cons, tz_nil] at h
  | a :: p, b :: q, h => by
    rw [tz_cons, tz_cons] at h
    have := List.cons.inj h
    rw [ic_inj this.1, tz_inj this.2]
/-- how often the sign changes between neighbours -/
def chg : List Int → Nat
  | a :: b :: l => (if decide (b > 0) != decide (a > 0) then 1 else 0) + chg (b :: l)
  | _ => 0
def nz (l : List Int) : List Int := l.filter (fun a => decide (a ≠ 0))
theorem vr_chg : ∀ (l : List Int) (a : Int), a ≠ 0 → vr (ic a) (tz l) = chg (a :: nz l)
  | [], a, _ => rfl
  | b :: l, a, ha => by
    rw [tz_cons]
    simp only [vr]
    by_cases z : b = 0
    · rw [if_pos (ic_eq_zero.mpr z), vr_chg l a ha]
      simp [nz, z]
    · rw [if_neg (fun w => z (ic_eq_zero.mp w)), vr_chg l b z]
      have e : nz (b :: l) = b :: nz l := by simp [nz, z]
      rw [e]
      show _ = (if decide (b > 0) != decide (a > 0) then 1 else 0) + chg (b :: nz l)
      congr 1
      have key : ic a * ic b < 0 ↔ a * b < 0 := by rw [← ic_mul, ← ic_zero, ic_lt]
      by_cases p : 0 < a <;> by_cases q : 0 < b
      · rw [if_neg (fun w => by have := key.mp w; have := Int.mul_pos p q; omega), if_neg (by simp [p, q])]
      · rw [if_pos (key.mpr (by have := Int.mul_pos (a := a) (b := -b) p (by omega); rw [Int.mul_neg] at this; omega)), if_pos (by simp [p]; omega)]
      · rw [if_pos (key.mpr (by have := Int.mul_pos (a := -a) (b := b) (by omega) q; rw [Int.neg_mul] at this; omega)), if_pos (by simp [q]; omega)]
      · rw [if_neg (fun w => by have := key.mp w; have := Int.mul_pos (a := -a) (b := -b) (by omega) (by omega); rw [Int.neg_mul_neg] at this; omega), if_neg (by simp; omega)]
theorem vk_chg : ∀ l : List Int, vk (tz l) = chg (nz l)
  | [] => rfl
  | a :: l => by
    rw [tz_cons]
    simp only [vk]
    by_cases z : a = 0
    · rw [if_pos (ic_eq_zero.mpr z), vk_chg l]; simp [nz, z]
    · rw [if_neg (fun w => z (ic_eq_zero.mp w)), vr_chg l a z]; simp [nz, z]
def zah : List Int → Nat
  | [] => 0
  | a :: l => if a = 0 then zah l + 1 else 0
theorem zk_zah : ∀ l : List Int, zk (tz l) = zah l
  | [] => rfl
  | a :: l => by
    rw [tz_cons]
    simp only [zk, zah]
    by_cases z : a = 0
    · rw [if_pos (ic_eq_zero.mpr z), if_pos z, zk_zah l]
    · rw [if_neg (fun w => z (ic_eq_zero.mp w)), if_neg z]
/-- Horner's sweep: the value ahead, the quotient behind -/
def sw (a : Int) : List Int → List Int
  | [] => []
  | c :: l => (c + a * (sw a l).headD 0) :: sw a l
theorem sw_len (a : Int) : ∀ l, (sw a l).length = l.length
  | [] => rfl
  | c :: l => by simp [sw, sw_len a l]
theorem sw_eq (a : Int) : ∀ (l : List Int) (y : K), ev (tz l) y = (y - ic a) * ev (tz (sw a l).tail) y + ic ((sw a l).headD 0)
  | [], y => by
    show (0 : K) = (y - ic a) * 0 + ic 0
    rw [ic_zero]; grind
  | c :: l, y => by
    have ih := sw_eq a l y
    show ic c + y * ev (tz l) y = (y - ic a) * ev (tz (sw a l)) y + ic (c + a * (sw a l).headD 0)
    rw [ic_add, ic_mul]
    have e : ev (tz (sw a l)) y = ic ((sw a l).headD 0) + y * ev (tz (sw a l).tail) y := by
      cases sw a l with
      | nil =>
        show (0 : K) = ic 0 + y * 0
        rw [ic_zero]; grind
      | cons b q => rfl
    rw [e, ih]; grind
/-- some(x + a) -/
def shf (a : Int) : Nat → List Int → List Int
  | 0, l => l
  | n + 1, l => match sw a l with
    | [] => []
    | b :: q => b :: shf a n q
theorem shf_len (a : Int) : ∀ (n : Nat) (l : List Int), (shf a n l).length = l.length
  | 0, l => rfl
  | n + 1, l => by
    unfold shf
    have := sw_len a l
    cases e : sw a l with
    | nil => rw [e] at this; exact this
    | cons b q => rw [e] at this; simp only [List.length_cons, shf_len a n q] at *; exact this
theorem shf_eq (a : Int) : ∀ (n : Nat) (l : List Int), l.length ≤ n + 1 → ∀ x, ev (tz (shf a n l)) x = ev (tz l) (x + ic a)
  | 0, [], _, x => rfl
  | 0, [c], _, x => by
    show ic c + x * 0 = ic c + (x + ic a) * 0
    grind
  | 0, c :: d :: l, h, x => by simp at h
  | n + 1, l, h, x => by
    have s := sw_eq a l (x + ic a)
    have sl := sw_len a l
    unfold shf
    cases e : sw a l with
    | nil =>
      rw [e] at sl
      have : l = [] := List.eq_nil_of_length_eq_zero sl.symm
      rw [this]; rfl
    | cons b q =>
      rw [e] at s sl
      rw [s]
      show ic b + x * ev (tz (shf a n q)) x = (x + ic a - ic a) * ev (tz q) (x + ic a) + ic b
      rw [shf_eq a n q (by simp at sl; omega)]
      grind
/-- the roots times d -/
def scl (d : Int) : List Int → List Int
  | [] => []
  | c :: l => c * d ^ l.length :: scl d l
theorem scl_len (d : Int) : ∀ l, (scl d l).length = l.length
  | [] => rfl
  | c :: l => by simp [scl, scl_len d l]
theorem scl_eq (d : Int) : ∀ (l : List Int) (c : Int) (y : K), ev (tz (scl d (c :: l))) (ic d * y) = ic (d ^ l.length) * ev (tz (c :: l)) y
  | [], c, y => by
    show ic (c * d ^ 0) + ic d * y * 0 = ic (d ^ 0) * (ic c + y * 0)
    rw [Int.pow_zero, Int.mul_one, ic_one]; grind
  | b :: l, c, y => by
    have ih := scl_eq d l b y
    show ic (c * d ^ (l.length + 1)) + ic d * y * ev (tz (scl d (b :: l))) (ic d * y) = ic (d ^ (l.length + 1)) * (ic c + y * ev (tz (b :: l)) y)
    rw [ih, ic_mul, Int.pow_succ, ic_mul]; grind
theorem prodL_shift (rs : List K) (a x : K) : prodL rs (x + a) = prodL (rs.map (fun r => r - a)) x := by
  induction rs with
  | nil => rfl
  | cons r rs ih => simp only [prodL, List.map_cons, ih]; grind
theorem Sp.shf {l : List Int} {rs : List K} (h : Sp (tz l) rs) (a : Int) {n : Nat} (hn : l.length ≤ n + 1) : tz (shf a n l) = linL (rs.map (fun r => r - ic a)) :=
  list_ext (by rw [len_tz, shf_len, ← len_tz, h.len, len_lin, List.length_map]) fun x => by
    rw [shf_eq a n l hn, h.eq, ev_lin, prodL_shift]
theorem ic_pow (d : Int) (n : Nat) : ic (d ^ (n + 1)) = ic (d ^ n) * ic d := by rw [Int.pow_succ, ic_mul]
theorem prodL_scale (d : Int) (rs : List K) (y : K) : ic (d ^ rs.length) * prodL rs y = prodL (rs.map (fun r => ic d * r)) (ic d * y) := by
  induction rs with
  | nil =>
    show ic (d ^ 0) * 1 = 1
    rw [Int.pow_zero, ic_one]; grind
  | cons r rs ih =>
    simp only [prodL, List.map_cons, List.length_cons]
    rw [← ih, ic_pow]; grind
theorem Sp.scl {l : List Int} {rs : List K} (h : Sp (tz l) rs) {d : Int} (hd : 0 < d) : Sp (tz (scl d l)) (rs.map (fun r => ic d * r)) := by
  have hl : l.length = rs.length + 1 := by rw [← len_tz, h.len]
  refine ⟨by rw [len_tz, scl_len, hl, List.length_map], fun x => ?_⟩
  match l, hl with
  | c :: l, hl =>
    have e : ic d * (x * ofQ (1 / (d : Rat))) = x := by
      have : ic d * ofQ (1 / (d : Rat)) = 1 := by
        unfold ic
        rw [← ofQ_mul, Rat.mul_comm, Rat.div_mul_cancel (by
          intro z
          have := Rat.intCast_eq_zero_iff.mp z
          omega)]
        rfl
      grind
    have hl2 : l.length = rs.length := by simpa using hl
    have s := scl_eq d l c (x * ofQ (1 / (d : Rat)))
    rw [h.eq, hl2, prodL_scale, e] at s
    exact s
/-- how many roots are at least a whole number -/
theorem roots_from {l : List Int} {rs : List K} (h : Sp (tz l) rs) (a : Int) {n : Nat} (hn : l.length ≤ n + 1) :
    chg (nz (shf a n l)) + zah (shf a n l) = atl rs (ic a) ∧ zah (shf a n l) = rs.count (ic a) := by
  rw [← vk_chg, ← zk_zah, h.shf a hn]
  obtain ⟨d1, d2⟩ := descartes (rs.map (fun r => r - ic a))
  have cnt : (rs.map (fun r => r - ic a)).count 0 = rs.count (ic a) := by
    induction rs with
    | nil => rfl
    | cons r rs ih =>
      clear h d1 d2
      have : ∀ l : List K, (l.map (fun r => r - ic a)).count 0 = l.count (ic a) := by
        intro l
        induction l with
        | nil => rfl
        | cons r l ih =>
          rw [List.map_cons, List.count_cons, List.count_cons, ih]
          congr 1
          by_cases e : r = ic a
          · rw [if_pos (by simp; grind), if_pos (by simpa using e)]
          · rw [if_neg (by simp; grind), if_neg (by simpa using e)]
      exact this _
  have abv : ∀ l : List K, above (l.map (fun r => r - ic a)) 0 = above l (ic a) := by
    intro l
    induction l with
    | nil => rfl
    | cons r l ih =>
      rw [List.map_cons, above_cons, above_cons, ih]
      congr 1
      by_cases e : ic a < r
      · rw [if_pos (by grind), if_pos e]
      · rw [if_neg (by grind), if_neg e]
  rw [d1, d2, atl_eq, cnt, abv]
  exact ⟨rfl, rfl⟩
theorem ic_scale {d : Int} (hd : 0 < d) (a : Int) (r : K) : (ic a ≤ ic d * r ↔ ofQ ((a : Rat) / (d : Rat)) ≤ r) ∧ (ic d * r = ic a ↔ r = ofQ ((a : Rat) / (d : Rat))) := by
  have nd : (d : Rat) ≠ 0 := fun z => by have := Rat.intCast_eq_zero_iff.mp z; omega
  have e : ic d * ofQ ((a : Rat) / (d : Rat)) = ic a := by
    unfold ic
    rw [← ofQ_mul, Rat.mul_comm, Rat.div_mul_cancel nd]
  have pd : 0 < ic d := ic_pos.mpr hd
  rw [← e]
  generalize ofQ ((a : Rat) / (d : Rat)) = q
  constructor
  · constructor
    · intro h
      refine Classical.byContradiction fun c => ?_
      have := K.mul_pos (a := ic d) (b := q - r) pd (by grind)
      grind
    · intro h
      have := mul_nn (a := ic d) (b := r - q) (by grind) (by grind)
      grind
  · constructor
    · intro h
      rcases mul_eq_zero (a := ic d) (b := r - q) (by grind) with c | c
      · grind
      · grind
    · intro h; rw [h]
theorem atl_scale {d : Int} (hd : 0 < d) (a : Int) (rs : List K) : atl (rs.map (fun r => ic d * r)) (ic a) = atl rs (ofQ ((a : Rat) / (d : Rat))) ∧ (rs.map (fun r => ic d * r)).count (ic a) = rs.count (ofQ ((a : Rat) / (d : Rat))) := by
  induction rs with
  | nil => exact ⟨rfl, rfl⟩
  | cons r rs ih =>
    have s := ic_scale hd a r
    rw [List.map_cons, atl_cons, atl_cons, List.count_cons, List.count_cons, ih.1, ih.2]
    constructor
    · congr 1
      by_cases e : ofQ ((a : Rat) / (d : Rat)) ≤ r
      · rw [if_pos e, if_pos (s.1.mpr e)]
      · rw [if_neg e, if_neg (fun w => e (s.1.mp w))]
    · congr 1
      by_cases e : r = ofQ ((a : Rat) / (d : Rat))
      · rw [if_pos (by simpa using s.2.mpr e), if_pos (by simpa using e)]
      · rw [if_neg (by simpa using fun w => e (s.2.mp w)), if_neg (by simpa using e)]
end MG

-- part MX
namespace MG
open K
/-! ## Matchings and their polynomial -/
section
variable {α : Type} [DecidableEq α]
abbrev Edge (α : Type) := α × α
def apart (e f : Edge α) : Bool := f.1 != e.1 && f.1 != e.2 && f.2 != e.1 && f.2 != e.2
def off (E : List (Edge α)) (e : Edge α) : List (Edge α) := E.filter (apart e)
def offv (E : List (Edge α)) (v : α) : List (Edge α) := E.filter (fun f => f.1 != v && f.2 != v)
def inc (E : List (Edge α)) (v : α) : List (Edge α) := E.filter (fun f => f.1 == v || f.2 == v)
def mts : List (Edge α) → List (List (Edge α))
  | [] => [[]]
  | e :: E => mts E ++ ((mts E).filter fun m => m.all (apart e)).map fun m => e :: m
theorem matchings_cons (e : Edge α) (E : List (Edge α)) : mts (e :: E) = mts E ++ ((mts E).filter fun m => m.all (apart e)).map fun m => e :: m := rfl
theorem filter_comm {β : Type} (p q : β → Bool) (l : List β) : (l.filter p).filter q = (l.filter q).filter p := by
  rw [List.filter_filter, List.filter_filter]
  congr 1; funext a; rw [Bool.and_comm]
theorem matchings_off (e : Edge α) : ∀ E : List (Edge α), (mts E).filter (fun m => m.all (apart e)) = mts (off E e)
  | [] => rfl
  | f :: E => by
    have ih := matchings_off e E
    rw [matchings_cons, List.filter_append, ih]
    by_cases c : apart e f = true
    · have o : off (f :: E) e = f :: off E e := by simp [off, c]
      rw [o, matchings_cons, List.filter_map]
      congr 1
      have : ((fun m : List (Edge α) => m.all (apart e)) ∘ fun m => f :: m) = fun m => m.all (apart e) := by
        funext m; simp [c]
      rw [this, filter_comm, ih]
    · have o : off (f :: E) e = off E e := by simp [off, c]
      rw [o, List.filter_map]
      have : ((fun m : List (Edge α) => m.all (apart e)) ∘ fun m => f :: m) = fun _ => false := by
        funext m; simp [c]
      rw [this]
      simp
def cnt (E : List (Edge α)) (k : Nat) : Nat := ((mts E).filter fun m => m.length == k).length
theorem cnt_zero : ∀ E : List (Edge α), cnt E 0 = 1
  | [] => rfl
  | e :: E => by
    have ih := cnt_zero E
    unfold cnt at *
    rw [matchings_cons, List.filter_append, List.length_append, ih, List.filter_map]
    simp
theorem cnt_nil (k : Nat) : cnt ([] : List (Edge α)) (k + 1) = 0 := rfl
theorem cnt_cons (e : Edge α) (E : List (Edge α)) (k : Nat) : cnt (e :: E) (k + 1) = cnt E (k + 1) + cnt (off E e) k := by
  unfold cnt
  rw [matchings_cons, List.filter_append, List.length_append, List.filter_map, List.length_map, matchings_off]
  congr 2
  congr 1
  funext m
  simp
def sgn (k : Nat) : Int := if k % 2 = 0 then 1 else -1
theorem sgn_succ (k : Nat) : sgn (k + 1) = - sgn k := by
  unfold sgn
  by_cases h : k % 2 = 0
  · rw [if_pos h, if_neg (by omega)]
  · rw [if_neg h, if_pos (by omega)]; rfl
/-- the matching polynomial, over n vertices -/
def mp (n : Nat) (E : List (Edge α)) : List Int := (List.range (n + 1)).map fun i => if (n - i) % 2 = 1 then 0 else sgn ((n - i) / 2) * (cnt E ((n - i) / 2) : Nat)
theorem mp_len (n : Nat) (E : List (Edge α)) : (mp n E).length = n + 1 := by simp [mp]
theorem cf_tz (l : List Int) (i : Nat) : cf (tz l) i = ic (l.getD i 0) := by
  unfold tz
  rw [cf_tk]
  unfold ic
  congr 1
  simp only [Kqg1.coefficient, tq, List.getD_eq_getElem?_getD, List.getElem?_map]
  cases l[i]? <;> rfl
theorem cf_mp (n : Nat) (E : List (Edge α)) (i : Nat) : cf (tz (mp n E)) i = if i ≤ n then (if (n - i) % 2 = 1 then 0 else ic (sgn ((n - i) / 2) * (cnt E ((n - i) / 2) : Nat))) else 0 := by
  rw [cf_tz]
  simp only [mp, List.getD_eq_getElem?_getD, List.getElem?_map]
  by_cases c : i ≤ n
  · rw [if_pos c, List.getElem?_range (by omega)]
    show ic (if _ then _ else _) = _
    split <;> rfl
  · rw [if_neg c, List.getElem?_eq_none (by simp; omega)]; rfl
theorem mp_top (n : Nat) (E : List (Edge α)) : cf (tz (mp n E)) n = 1 := by
  rw [cf_mp, if_pos (Nat.le_refl n), Nat.sub_self, if_neg (by decide)]
  show ic (sgn 0 * (cnt E 0 : Nat)) = 1
  rw [cnt_zero]; rfl
theorem mp_edge (n : Nat) (e : Edge α) (E : List (Edge α)) (x : K) : ev (tz (mp (n + 2) (e :: E))) x = ev (tz (mp (n + 2) E)) x - ev (tz (mp n (off E e))) x := by
  rw [← ev_sub]
  refine ev_of_cf (fun i => ?_) x
  rw [cf_sub, cf_mp, cf_mp, cf_mp]
  by_cases c : i ≤ n
  · have h2 : i ≤ n + 2 := by omega
    rw [if_pos h2, if_pos h2, if_pos c]
    by_cases d : (n - i) % 2 = 1
    · rw [if_pos (show (n + 2 - i) % 2 = 1 by omega), if_pos (show (n + 2 - i) % 2 = 1 by omega), if_pos d]; grind
    · rw [if_neg (show ¬ (n + 2 - i) % 2 = 1 by omega), if_neg (show ¬ (n + 2 - i) % 2 = 1 by omega), if_neg d]
      obtain ⟨k, hk⟩ : ∃ k, (n - i) / 2 = k := ⟨_, rfl⟩
      rw [show (n + 2 - i) / 2 = k + 1 by omega, hk, cnt_cons, sgn_succ, ← ic_sub]
      congr 1
      rw [Int.natCast_add, Int.neg_mul, Int.neg_mul, Int.mul_add]; omega
  · rw [if_neg c]
    by_cases d : i ≤ n + 2
    · rw [if_pos d, if_pos d]
      by_cases f : (n + 2 - i) % 2 = 1
      · rw [if_pos f]; grind
      · rw [if_neg f, show (n + 2 - i) / 2 = 0 by omega, cnt_zero, cnt_zero]; grind
    · rw [if_neg d, if_neg d]; grind
theorem mp_nil (n : Nat) (x : K) : ev (tz (mp (n + 1) ([] : List (Edge α)))) x = x * ev (tz (mp n ([] : List (Edge α)))) x := by
  have e : x * ev (tz (mp n ([] : List (Edge α)))) x = ev (0 :: tz (mp n ([] : List (Edge α)))) x := by simp only [ev]; grind
  rw [e]
  refine ev_of_cf (fun i => ?_) x
  cases i with
  | zero =>
    rw [cf_zero, cf_mp, if_pos (Nat.zero_le _)]
    split
    · rfl
    · obtain ⟨k, hk⟩ : ∃ k, (n + 1 - 0) / 2 = k + 1 := ⟨(n + 1) / 2 - 1, by omega⟩
      rw [hk, cnt_nil]
      show ic (_ * 0) = 0
      rw [Int.mul_zero]; rfl
  | succ i =>
    rw [cf_succ, cf_mp, cf_mp]
    by_cases c : i ≤ n
    · rw [if_pos (by omega), if_pos c, show n + 1 - (i + 1) = n - i by omega]
    · rw [if_neg (by omega), if_neg c]
structure Valid (V : List α) (E : List (Edge α)) : Prop where
  nd : V.Nodup
  mem : ∀ e, e ∈ E → e.1 ∈ V ∧ e.2 ∈ V ∧ e.1 ≠ e.2
omit [DecidableEq α] in
theorem Valid.sub {V : List α} {E F : List (Edge α)} (h : Valid V E) (hs : ∀ e, e ∈ F → e ∈ E) : Valid V F := ⟨h.nd, fun e he => h.mem e (hs e he)⟩
theorem Valid.offv {V : List α} {E : List (Edge α)} (h : Valid V E) (v : α) : Valid (V.erase v) (offv E v) := by
  refine ⟨h.nd.erase v, fun e he => ?_⟩
  have he := List.mem_filter.mp he
  have m := h.mem e he.1
  have ne := he.2
  simp only [Bool.and_eq_true, bne_iff_ne] at ne
  exact ⟨(List.mem_erase_of_ne ne.1).mpr m.1, (List.mem_erase_of_ne ne.2).mpr m.2.1, m.2.2⟩
theorem off_offv (E : List (Edge α)) (e : Edge α) : off E e = offv (offv E e.1) e.2 := by
  unfold off offv
  rw [List.filter_filter]
  congr 1
  funext f
  unfold apart
  cases f.1 != e.1 <;> cases f.1 != e.2 <;> cases f.2 != e.1 <;> cases f.2 != e.2 <;> rfl
theorem off_offv' (E : List (Edge α)) (e : Edge α) : off E e = offv (offv E e.2) e.1 := by
  rw [off_offv]; exact filter_comm _ _ _
theorem Valid.off {V : List α} {E : List (Edge α)} (h : Valid V E) (e : Edge α) : Valid ((V.erase e.1).erase e.2) (off E e) := by
  rw [off_offv]; exact (h.offv e.1).offv e.2
theorem len_erase {V : List α} {v : α} (h : v ∈ V) {n : Nat} (hn : V.length = n + 1) : (V.erase v).length = n := by
  rw [List.length_erase_of_mem h, hn]; rfl
omit [DecidableEq α] in
theorem len_pos {V : List α} {v : α} (h : v ∈ V) : ∃ n, V.length = n + 1 := Nat.exists_eq_succ_of_ne_zero (by have := List.length_pos_of_mem h; omega)
theorem sm_filter {β : Type} (p : β → Bool) (h : β → K) : ∀ l : List β, sm (l.filter p) h = sm l (fun a => if p a = true then h a else 0)
  | [] => rfl
  | a :: l => by
    have ih := sm_filter p h l
    rw [List.filter_cons]
    by_cases c : p a = true
    · rw [if_pos c]; simp only [sm, ih, c, if_true]
    · rw [if_neg c]; simp only [sm, ih, c]; simp; grind
theorem apart_comm (e f : Edge α) : apart e f = apart f e := by
  unfold apart
  rw [Bool.eq_iff_iff]
  simp only [Bool.and_eq_true, bne_iff_ne, ne_eq]
  constructor
  · rintro ⟨⟨⟨a, b⟩, c⟩, d⟩
    exact ⟨⟨⟨fun h => a h.symm, fun h => c h.symm⟩, fun h => b h.symm⟩, fun h => d h.symm⟩
  · rintro ⟨⟨⟨a, b⟩, c⟩, d⟩
    exact ⟨⟨⟨fun h => a h.symm, fun h => c h.symm⟩, fun h => b h.symm⟩, fun h => d h.symm⟩
/-- a matching polynomial by one vertex -/
theorem mp_vertex : ∀ (E : List (Edge α)) (V : List α) (n : Nat) (v : α), Valid V E → V.length = n + 1 → v ∈ V → ∀ x,
    ev (tz (mp (n + 1) E)) x = x * ev (tz (mp n (offv E v))) x - sm (inc E v) (fun f => ev (tz (mp (n - 1) (off E f))) x)
  | [], V, n, v, _, _, _, x => by
    rw [mp_nil]; show _ = x * ev (tz (mp n ([] : List (Edge α)))) x - 0; grind
  | e :: E, V, n, v, hV, hn, hv, x => by
    have vE : Valid V E := hV.sub fun f hf => List.mem_cons_of_mem _ hf
    obtain ⟨m1, m2, m3⟩ := hV.mem e List.mem_cons_self
    have l1 := len_erase m1 hn
    have m2' : e.2 ∈ V.erase e.1 := (List.mem_erase_of_ne (fun h => m3 h.symm)).mpr m2
    obtain ⟨n1, hn1⟩ := len_pos m2'
    have l2 := len_erase m2' hn1
    obtain rfl : n = n1 + 1 := by omega
    by_cases t : (e.1 == v || e.2 == v) = true
    · -- the edge touches v
      have o1 : offv (e :: E) v = offv E v := by
        unfold offv
        rw [List.filter_cons, if_neg]
        simp only [Bool.or_eq_true, beq_iff_eq] at t
        simp only [Bool.and_eq_true, bne_iff_ne]
        grind
      have o2 : inc (e :: E) v = e :: inc E v := by unfold inc; rw [List.filter_cons, if_pos t]
      have o3 : off (e :: E) e = off E e := by
        unfold off
        rw [List.filter_cons, if_neg (by simp [apart])]
      have o4 : ∀ f, f ∈ inc E v → off (e :: E) f = off E f := fun f hf => by
        have tf := (List.mem_filter.mp hf).2
        unfold off
        rw [List.filter_cons, if_neg]
        simp only [Bool.or_eq_true, beq_iff_eq] at t tf
        simp only [apart, Bool.and_eq_true, bne_iff_ne]
        grind
      have o5 : sm (inc E v) (fun f => ev (tz (mp (n1 + 1 - 1) (off (e :: E) f))) x) = sm (inc E v) (fun f => ev (tz (mp (n1 + 1 - 1) (off E f))) x) := sm_congr fun f hf => by rw [o4 f hf]
      have ih := mp_vertex E V (n1 + 1) v vE hn hv x
      rw [mp_edge, ih, o1, o2]
      simp only [sm, o3, o5]
      show _ = _ - (ev (tz (mp n1 (off E e))) x + _)
      clear o1 o2 o3 o4 o5 ih
      grind
    · have ne : e.1 ≠ v ∧ e.2 ≠ v := by
        simp only [Bool.or_eq_true, beq_iff_eq] at t; grind
      have hv2 : v ∈ (V.erase e.1).erase e.2 := (List.mem_erase_of_ne (fun h => ne.2 h.symm)).mpr ((List.mem_erase_of_ne (fun h => ne.1 h.symm)).mpr hv)
      obtain ⟨n2, hn2⟩ := len_pos hv2
      obtain rfl : n1 = n2 + 1 := by omega
      have o1 : offv (e :: E) v = e :: offv E v := by
        unfold offv
        rw [List.filter_cons, if_pos]
        simp only [Bool.and_eq_true, bne_iff_ne]; exact ne
      have o2 : inc (e :: E) v = inc E v := by unfold inc; rw [List.filter_cons, if_neg t]
      have ih1 := mp_vertex E V (n2 + 2) v vE hn hv x
      have ih2 := mp_vertex (off E e) _ n2 v (vE.off e) hn2 hv2 x
      have o3 : offv (off E e) v = off (offv E v) e := filter_comm _ _ _
      have o4 : inc (off E e) v = (inc E v).filter (apart e) := filter_comm _ _ _
      rw [o3, o4, sm_filter] at ih2
      have o5 : sm (inc E v) (fun f => ev (tz (mp (n2 + 1) (off (e :: E) f))) x) = sm (inc E v) (fun f => ev (tz (mp (n2 + 1) (off E f))) x + (-1) * (if apart e f = true then ev (tz (mp (n2 - 1) (off (off E e) f))) x else 0)) := sm_congr fun f hf => by
        by_cases a : apart e f = true
        · have of : off (e :: E) f = e :: off E f := by unfold off; rw [List.filter_cons, if_pos (by rw [apart_comm]; exact a)]
          -- four vertices
          have hf := List.mem_filter.mp hf
          obtain ⟨f1, f2, f3⟩ := vE.mem f hf.1
          have a' := a
          simp only [apart, Bool.and_eq_true, bne_iff_ne] at a'
          have q1 : f.1 ∈ (V.erase e.1).erase e.2 := (List.mem_erase_of_ne a'.1.1.2).mpr ((List.mem_erase_of_ne a'.1.1.1).mpr f1)
          have q2 : f.2 ∈ (V.erase e.1).erase e.2 := (List.mem_erase_of_ne a'.2).mpr ((List.mem_erase_of_ne a'.1.2).mpr f2)
          have q3 : f.2 ∈ ((V.erase e.1).erase e.2).erase f.1 := (List.mem_erase_of_ne (fun h => f3 h.symm)).mpr q2
          have l3 := len_erase q1 hn2
          obtain ⟨n3, hn3⟩ := len_pos q3
          obtain rfl : n2 = n3 + 1 := by omega
          rw [of, if_pos a, mp_edge, show off (off E f) e = off (off E e) f from filter_comm _ _ _]
          show _ = _ + -1 * ev (tz (mp n3 _)) x
          grind
        · have of : off (e :: E) f = off E f := by unfold off; rw [List.filter_cons, if_neg (by rw [apart_comm]; exact a)]
          rw [of, if_neg a]; grind
      rw [mp_edge, o1, o2]
      show _ = x * ev (tz (mp (n2 + 2) (e :: offv E v))) x - sm (inc E v) (fun f => ev (tz (mp (n2 + 1) (off (e :: E) f))) x)
      rw [mp_edge, o5, sm_add, sm_mul]
      rw [show n2 + 2 - 1 = n2 + 1 by omega] at ih1
      rw [show n2 + 1 + 1 + 1 = n2 + 2 + 1 by omega, ih1]
      rw [ih2]
      clear ih1 ih2 o1 o2 o3 o4 o5
      grind
termination_by E => E.length
decreasing_by
  all_goals simp_wf
  all_goals first
    | omega
    | (have := List.length_filter_le (apart e) E; unfold off; omega)
/-- the sum over the paths, told as squares -/
theorem graph_sq : ∀ (n : Nat) (V : List α) (E : List (Edge α)) (v : α), Valid V E → V.length = n + 1 → v ∈ V → ∃ fs : List (List K), (∀ f, f ∈ fs → f.length ≤ n + 1) ∧
    ∀ x y, ev (tz (mp (n + 1) E)) x * ev (tz (mp n (offv E v))) y - ev (tz (mp n (offv E v))) x * ev (tz (mp (n + 1) E)) y = (x - y) * sm fs (fun f => ev f x * ev f y)
  | n, V, E, v, hV, hn, hv => by
    have hV2 := hV.offv v
    have l2 := len_erase hv hn
    -- for each edge at v
    have each : ∀ f, f ∈ inc E v → ∃ fs : List (List K), (∀ g, g ∈ fs → g.length ≤ n + 1) ∧ ∀ x y, ev (tz (mp n (offv E v))) x * ev (tz (mp (n - 1) (off E f))) y - ev (tz (mp (n - 1) (off E f))) x * ev (tz (mp n (offv E v))) y = (x - y) * sm fs (fun g => ev g x * ev g y) := fun f hf => by
      have hf := List.mem_filter.mp hf
      obtain ⟨f1, f2, f3⟩ := hV.mem f hf.1
      have hf2 := hf.2
      simp only [Bool.or_eq_true, beq_iff_eq] at hf2
      obtain ⟨u, hu, hu2⟩ : ∃ u, u ∈ V.erase v ∧ off E f = offv (offv E v) u := by
        rcases hf2 with q | q
        · exact ⟨f.2, by rw [← q]; exact (List.mem_erase_of_ne (fun h => f3 h.symm)).mpr f2, by rw [← q]; exact off_offv E f⟩
        · exact ⟨f.1, by rw [← q]; exact (List.mem_erase_of_ne f3).mpr f1, by rw [← q]; exact off_offv' E f⟩
      obtain ⟨k, hk⟩ := len_pos hu
      obtain rfl : n = k + 1 := by omega
      obtain ⟨fs, h1, h2⟩ := graph_sq k (V.erase v) (offv E v) u hV2 hk hu
      refine ⟨fs, fun g hg => by have := h1 g hg; omega, fun x y => ?_⟩
      rw [hu2]
      exact h2 x y
    have all : ∀ l : List (Edge α), (∀ f, f ∈ l → f ∈ inc E v) → ∃ fs : List (List K), (∀ g, g ∈ fs → g.length ≤ n + 1) ∧ ∀ x y, ev (tz (mp n (offv E v))) x * sm l (fun f => ev (tz (mp (n - 1) (off E f))) y) - sm l (fun f => ev (tz (mp (n - 1) (off E f))) x) * ev (tz (mp n (offv E v))) y = (x - y) * sm fs (fun g => ev g x * ev g y) := by
      intro l
      induction l with
      | nil => intro _; exact ⟨[], fun g hg => by simp at hg, fun x y => by simp only [sm]; grind⟩
      | cons f l ih =>
        intro h
        obtain ⟨fs, h1, h2⟩ := ih fun g hg => h g (List.mem_cons_of_mem _ hg)
        obtain ⟨gs, h3, h4⟩ := each f (h f List.mem_cons_self)
        refine ⟨fs ++ gs, fun g hg => ?_, fun x y => ?_⟩
        · rcases List.mem_append.mp hg with q | q
          · exact h1 g q
          · exact h3 g q
        · have a := h2 x y
          have b := h4 x y
          rw [sm_app]
          simp only [sm]
          have e : ∀ S T : K, (x - y) * (S + T) = (x - y) * S + (x - y) * T := fun S T => by grind
          rw [e, ← a, ← b]
          clear h h1 h2 h3 h4 ih each a b e
          grind
    obtain ⟨fs, h1, h2⟩ := all (inc E v) fun f hf => hf
    refine ⟨tz (mp n (offv E v)) :: fs, fun g hg => ?_, fun x y => ?_⟩
    · rcases List.mem_cons.mp hg with q | q
      · rw [q, len_tz, mp_len]; omega
      · exact h1 g q
    · have a := h2 x y
      rw [mp_vertex E V n v hV hn hv x, mp_vertex E V n v hV hn hv y]
      simp only [sm]
      have e : ∀ S T : K, (x - y) * (S + T) = (x - y) * S + (x - y) * T := fun S T => by grind
      rw [e, ← a]
      clear h1 h2 all each a e
      grind
  termination_by n => n
theorem graph_cd {n : Nat} {V : List α} {E : List (Edge α)} {v : α} (hV : Valid V E) (hn : V.length = n + 1) (hv : v ∈ V) : CD n (tz (mp (n + 1) E)) (tz (mp n (offv E v))) := by
  obtain ⟨fs, h1, h2⟩ := graph_sq n V E v hV hn hv
  refine ⟨by rw [len_tz, mp_len], by rw [len_tz, mp_len], by rw [mp_top]; exact one_pos, by rw [mp_top]; exact one_pos, 1, 1, fs, one_pos, one_pos, h1, fun x y => ?_⟩
  rw [h2 x y]
/-- all roots are real (Heilmann and Lieb) -/
theorem graph_sp : ∀ (n : Nat) (V : List α) (E : List (Edge α)), Valid V E → V.length = n → ∃ rs, Sp (tz (mp n E)) rs
  | 0, V, E, hV, hn => by
    have e0 : E = [] := by
      match E, hV with
      | [], _ => rfl
      | e :: E, hV =>
        have := (hV.mem e List.mem_cons_self).1
        rw [List.eq_nil_of_length_eq_zero hn] at this
        simp at this
    subst e0
    exact ⟨[], rfl, fun x => by show ic 1 + x * 0 = 1; rw [ic_one]; grind⟩
  | n + 1, V, E, hV, hn => by
    match V, hV, hn with
    | v :: V', hV, hn =>
      have hv : v ∈ v :: V' := List.mem_cons_self
      obtain ⟨qs, hq⟩ := graph_sp n _ _ (hV.offv v) (len_erase hv hn)
      obtain ⟨rs, hr, _⟩ := (graph_cd hV hn hv).sp (mp_top _ _) hq
      exact ⟨rs, hr⟩
theorem graph_il {n : Nat} {V : List α} {E : List (Edge α)} {v : α} (hV : Valid V E) (hn : V.length = n + 1) (hv : v ∈ V) : ∃ rs qs, Sp (tz (mp (n + 1) E)) rs ∧ Sp (tz (mp n (offv E v))) qs ∧ ∀ x, atl qs x ≤ atl rs x ∧ atl rs x ≤ atl qs x + 1 := by
  obtain ⟨qs, hq⟩ := graph_sp n _ _ (hV.offv v) (len_erase hv hn)
  obtain ⟨rs, hr, h⟩ := (graph_cd hV hn hv).sp (mp_top _ _) hq
  exact ⟨rs, qs, hr, hq, h⟩
end
theorem mts_eq : ∀ E : List (Edge Nat), Kqg4.matchings E = mts E
  | [] => rfl
  | e :: E => by
    have ih := mts_eq E
    show Kqg4.matchings E ++ _ = _
    rw [matchings_cons, ih]
    rfl
end MG

-- part MY
namespace MG
open K
open Kqg1 (Poly trim coefficient)
/-! ## Roots that are different are apart -/
structure Tri (s1 s2 s3 : K) : Prop where
  int : ∃ a b c : Int, s1 + s2 + s3 = ic a ∧ s1 * s2 + s1 * s3 + s2 * s3 = ic b ∧ s1 * s2 * s3 = ic c
  in1 : 0 ≤ s1 ∧ s1 ≤ 12
  in2 : 0 ≤ s2 ∧ s2 ≤ 12
  in3 : 0 ≤ s3 ∧ s3 ≤ 12
theorem Tri.swap {s1 s2 s3 : K} (h : Tri s1 s2 s3) : Tri s2 s1 s3 := by
  obtain ⟨⟨a, b, c, h1, h2, h3⟩, i1, i2, i3⟩ := h
  exact ⟨⟨a, b, c, by rw [← h1]; grind, by rw [← h2]; grind, by rw [← h3]; grind⟩, i2, i1, i3⟩
theorem Tri.turn {s1 s2 s3 : K} (h : Tri s1 s2 s3) : Tri s2 s3 s1 := by
  obtain ⟨⟨a, b, c, h1, h2, h3⟩, i1, i2, i3⟩ := h
  exact ⟨⟨a, b, c, by rw [← h1]; grind, by rw [← h2]; grind, by rw [← h3]; grind⟩, i2, i3, i1⟩
theorem int_sq {z : Int} (h : ic z ≠ 0) : 1 ≤ ic z * ic z := by
  rw [← ic_mul, ← ic_one, ic_le]
  have hz : z ≠ 0 := fun q => h (by rw [q]; rfl)
  rcases Int.lt_or_gt_of_ne hz with q | q
  · have := Int.mul_pos_of_neg_of_neg q q; omega
  · have := Int.mul_pos q q; omega
theorem mul_le {a b c d : K} (h1 : 0 ≤ a) (h2 : a ≤ b) (h3 : 0 ≤ c) (h4 : c ≤ d) : a * c ≤ b * d := by
  have p1 := mul_nn (a := b - a) (b := c) (by grind) h3
  have p2 := mul_nn (a := b) (b := d - c) (by grind) (by grind)
  grind
theorem sq_le {a B : K} (h1 : -B ≤ a) (h2 : a ≤ B) : a * a ≤ B * B := by
  have := mul_nn (a := B - a) (b := B + a) (by grind) (by grind)
  grind
/-- a value of a quadratic at the three roots: 0 or not small -/
theorem tri_val {s1 s2 s3 B : K} (h : Tri s1 s2 s3) {u v w : Int} {f : K → K} (hf1 : f s1 = ic u * (s1 * s1) + ic v * s1 + ic w) (hf2 : f s2 = ic u * (s2 * s2) + ic v * s2 + ic w) (hf3 : f s3 = ic u * (s3 * s3) + ic v * s3 + ic w)
    (hB : 1 ≤ B) (b1 : f s2 * f s2 ≤ B) (b2 : f s3 * f s3 ≤ B) (nz : f s1 ≠ 0) : 1 ≤ f s1 * f s1 * (B * B) := by
  obtain ⟨⟨a, b, c, ha, hb, hc⟩, _, _, _⟩ := h
  have n0 := sq_nn (f s1)
  have n2 := sq_nn (f s2)
  have n3 := sq_nn (f s3)
  have BB : 1 ≤ B * B := by
    have := mul_le (a := 1) (b := B) (c := 1) (d := B) (by have := one_pos; grind) hB (by have := one_pos; grind) hB
    grind
  -- the three elementary functions
  have E1 : f s1 + f s2 + f s3 = ic (3 * w + v * a + u * (a * a - 2 * b)) := by
    simp only [ic_add, ic_mul, ic_sub, ← ha, ← hb, hf1, hf2, hf3]
    rw [show ic 3 = (3 : K) from rfl, show ic 2 = (2 : K) from rfl]
    grind
  have E2 : f s1 * f s2 + f s1 * f s3 + f s2 * f s3 = ic (3 * (w * w) + 2 * (w * v * a) + 2 * (w * u * (a * a - 2 * b)) + v * v * b + v * u * (a * b - 3 * c) + u * u * (b * b - 2 * (a * c))) := by
    simp only [ic_add, ic_mul, ic_sub, ← ha, ← hb, ← hc, hf1, hf2, hf3]
    rw [show ic 3 = (3 : K) from rfl, show ic 2 = (2 : K) from rfl]
    grind
  have E3 : f s1 * f s2 * f s3 = ic (w * w * w + w * w * v * a + w * w * u * (a * a - 2 * b) + w * (v * v) * b + w * v * u * (a * b - 3 * c) + w * (u * u) * (b * b - 2 * (a * c)) + v * v * v * c + v * v * u * (a * c) + v * (u * u) * (b * c) + u * u * u * (c * c)) := by
    simp only [ic_add, ic_mul, ic_sub, ← ha, ← hb, ← hc, hf1, hf2, hf3]
    rw [show ic 3 = (3 : K) from rfl, show ic 2 = (2 : K) from rfl]
    grind
  generalize f s1 = x1 at *
  generalize f s2 = x2 at *
  generalize f s3 = x3 at *
  clear hf1 hf2 hf3 ha hb hc
  by_cases z2 : x2 = 0
  · by_cases z3 : x3 = 0
    · have := int_sq (z := 3 * w + v * a + u * (a * a - 2 * b)) (by rw [← E1, z2, z3]; grind)
      rw [← E1, z2, z3] at this
      clear E1 E2 E3
      have m := mul_le (a := 1) (b := x1 * x1) (c := 1) (d := B * B) (by have := one_pos; grind) (by grind) (by have := one_pos; grind) BB
      grind
    · have e : x1 * x2 + x1 * x3 + x2 * x3 = x1 * x3 := by rw [z2]; grind
      rw [e] at E2
      have := int_sq (by rw [← E2]; exact mul_ne nz z3)
      rw [← E2] at this
      clear E1 E2 E3
      have m1 := mul_le (a := x1 * x1) (b := x1 * x1) (c := x3 * x3) (d := B) n0 (by grind) n3 b2
      have m2 := mul_le (a := x1 * x1) (b := x1 * x1) (c := B) (d := B * B) n0 (by grind) (by grind) (by
        have := mul_le (a := 1) (b := B) (c := B) (d := B) (by have := one_pos; grind) hB (by grind) (by grind)
        grind)
      grind
  · by_cases z3 : x3 = 0
    · have e : x1 * x2 + x1 * x3 + x2 * x3 = x1 * x2 := by rw [z3]; grind
      rw [e] at E2
      have := int_sq (by rw [← E2]; exact mul_ne nz z2)
      rw [← E2] at this
      clear E1 E2 E3
      have m1 := mul_le (a := x1 * x1) (b := x1 * x1) (c := x2 * x2) (d := B) n0 (by grind) n2 b1
      have m2 := mul_le (a := x1 * x1) (b := x1 * x1) (c := B) (d := B * B) n0 (by grind) (by grind) (by
        have := mul_le (a := 1) (b := B) (c := B) (d := B) (by have := one_pos; grind) hB (by grind) (by grind)
        grind)
      grind
    · have := int_sq (by rw [← E3]; exact mul_ne (mul_ne nz z2) z3)
      rw [← E3] at this
      clear E1 E2 E3
      have m1 := mul_le (a := x2 * x2) (b := B) (c := x3 * x3) (d := B) n2 b1 n3 b2
      have m2 := mul_le (a := x1 * x1) (b := x1 * x1) (c := (x2 * x2) * (x3 * x3)) (d := B * B) n0 (by grind) (mul_nn n2 n3) m1
      grind
/-- 2^60: all that follows is far below -/
def DD : K := ofQ ((2 : Rat) ^ 60)
theorem small_le {q r : Rat} (h : q ≤ r) : ofQ q ≤ ofQ r := ofQ_le.mpr h
theorem tri_same {s1 s2 s3 : K} (h : Tri s1 s2 s3) (ne : s1 ≠ s2) : 1 ≤ (s1 - s2) * (s1 - s2) * DD := by
  obtain ⟨⟨a, b, c, ha, hb, hc⟩, i1, i2, i3⟩ := id h
  -- the derivative
  let f : K → K := fun y => 3 * (y * y) - 2 * ic a * y + ic b
  have F : ∀ y, f y = ic 3 * (y * y) + ic (-(2 * a)) * y + ic b := fun y => by
    show 3 * (y * y) - 2 * ic a * y + ic b = _
    rw [ic_neg, ic_mul, show ic 3 = (3 : K) from rfl, show ic 2 = (2 : K) from rfl]; grind
  have d1 : f s1 = (s1 - s2) * (s1 - s3) := by
    show 3 * (s1 * s1) - 2 * ic a * s1 + ic b = _
    rw [← ha, ← hb]; grind
  have d2 : f s2 = (s2 - s1) * (s2 - s3) := by
    show 3 * (s2 * s2) - 2 * ic a * s2 + ic b = _
    rw [← ha, ← hb]; grind
  have d3 : f s3 = (s3 - s1) * (s3 - s2) := by
    show 3 * (s3 * s3) - 2 * ic a * s3 + ic b = _
    rw [← ha, ← hb]; grind
  have sq : ∀ x y : K, 0 ≤ x ∧ x ≤ 12 → 0 ≤ y ∧ y ≤ 12 → (x - y) * (x - y) ≤ 144 := fun x y hx hy => by
    have := sq_le (a := x - y) (B := 12) (by grind) (by grind); grind
  have pr : ∀ x y : K, 0 ≤ x → x ≤ 144 → 0 ≤ y → y ≤ 144 → x * y ≤ 20736 := fun x y h1 h2 h3 h4 => by
    have := mul_le h1 h2 h3 h4; grind
  have q12 := sq s1 s2 i1 i2
  have q13 := sq s1 s3 i1 i3
  have q23 := sq s2 s3 i2 i3
  have n12 := sq_nn (s1 - s2)
  have n13 := sq_nn (s1 - s3)
  have n23 := sq_nn (s2 - s3)
  have e1 : f s1 * f s1 = ((s1 - s2) * (s1 - s2)) * ((s1 - s3) * (s1 - s3)) := by rw [d1]; grind
  have e2 : f s2 * f s2 = ((s1 - s2) * (s1 - s2)) * ((s2 - s3) * (s2 - s3)) := by rw [d2]; grind
  have e3 : f s3 * f s3 = ((s1 - s3) * (s1 - s3)) * ((s2 - s3) * (s2 - s3)) := by rw [d3]; grind
  have b1 : f s1 * f s1 ≤ 20736 := by rw [e1]; exact pr _ _ n12 q12 n13 q13
  have b2 : f s2 * f s2 ≤ 20736 := by rw [e2]; exact pr _ _ n12 q12 n23 q23
  have b3 : f s3 * f s3 ≤ 20736 := by rw [e3]; exact pr _ _ n13 q13 n23 q23
  have one20 : (1 : K) ≤ 20736 := by
    have : ofQ 1 ≤ ofQ 20736 := small_le (by decide +kernel)
    exact this
  have DDle : (144 : K) * (20736 * 20736) ≤ DD := by
    have : ofQ (144 * (20736 * 20736)) ≤ ofQ ((2 : Rat) ^ 60) := small_le (by decide +kernel)
    exact this
  have fin : ∀ m : K, 0 ≤ m → m ≤ 144 → 1 ≤ ((s1 - s2) * (s1 - s2)) * m * (20736 * 20736) → 1 ≤ (s1 - s2) * (s1 - s2) * DD := fun m m0 m1 hm => by
    have k0 : (0 : K) ≤ 20736 * 20736 := by
      have : ofQ 0 ≤ ofQ (20736 * 20736) := small_le (by decide +kernel)
      exact this
    have k1 := mul_le (a := m) (b := 144) (c := 20736 * 20736) (d := 20736 * 20736) m0 m1 k0 (by grind)
    have k2 := mul_le (a := (s1 - s2) * (s1 - s2)) (b := (s1 - s2) * (s1 - s2)) (c := m * (20736 * 20736)) (d := DD) n12 (by grind) (mul_nn m0 k0) (by grind)
    grind
  by_cases z : f s1 = 0
  · have z13 : s1 = s3 := by
      rw [d1] at z
      rcases mul_eq_zero z with q | q
      · exact absurd (by grind) ne
      · grind
    have nz : f s2 ≠ 0 := by
      rw [d2, ← z13]; exact mul_ne (by grind) (by grind)
    have := tri_val (s1 := s2) (s2 := s1) (s3 := s3) (B := 20736) h.swap (F s2) (F s1) (F s3) one20 b1 b3 nz
    rw [e2] at this
    exact fin _ n23 q23 this
  · have := tri_val (B := 20736) h (F s1) (F s2) (F s3) one20 b2 b3 z
    rw [e1] at this
    exact fin _ n13 q13 this
theorem tri_zero {s1 s2 s3 : K} (h : Tri s1 s2 s3) (ne : s1 ≠ 0) : 1 ≤ s1 * s1 * DD := by
  obtain ⟨_, i1, i2, i3⟩ := id h
  have F : ∀ y : K, (fun y : K => y) y = ic 0 * (y * y) + ic 1 * y + ic 0 := fun y => by
    show y = _
    rw [ic_zero, ic_one]; grind
  have one : (1 : K) ≤ 144 := by
    have : ofQ 1 ≤ ofQ 144 := small_le (by decide +kernel)
    exact this
  have := tri_val (f := fun y => y) (B := 144) h (F s1) (F s2) (F s3) one (by have := mul_le i2.1 i2.2 i2.1 i2.2; grind) (by have := mul_le i3.1 i3.2 i3.1 i3.2; grind) ne
  have DDle : (144 : K) * 144 ≤ DD := by
    have : ofQ (144 * 144) ≤ ofQ ((2 : Rat) ^ 60) := small_le (by decide +kernel)
    exact this
  have n := sq_nn s1
  have k0 : (0 : K) ≤ 144 * 144 := by
    have : ofQ 0 ≤ ofQ (144 * 144) := small_le (by decide +kernel)
    exact this
  have k2 := mul_le (a := s1 * s1) (b := s1 * s1) (c := 144 * 144) (d := DD) n (by grind) k0 DDle
  grind
theorem tri_two {s1 s2 s3 t1 t2 t3 : K} (h : Tri s1 s2 s3) (g : Tri t1 t2 t3) (ne : s1 ≠ t1) : 1 ≤ (s1 - t1) * (s1 - t1) * DD := by
  obtain ⟨⟨a, b, c, ha, hb, hc⟩, i1, i2, i3⟩ := id h
  obtain ⟨⟨a', b', c', ha', hb', hc'⟩, j1, j2, j3⟩ := id g
  let f : K → K := fun y => (y - t1) * (y - t2) * (y - t3)
  -- modulo the first cubic
  have F : ∀ y, (y - s1) * (y - s2) * (y - s3) = 0 → f y = ic (a - a') * (y * y) + ic (b' - b) * y + ic (c - c') := fun y hy => by
    show (y - t1) * (y - t2) * (y - t3) = _
    rw [ic_sub, ic_sub, ic_sub, ← ha, ← hb, ← hc, ← ha', ← hb', ← hc']
    have e : (y - t1) * (y - t2) * (y - t3) = (y - t1) * (y - t2) * (y - t3) - (y - s1) * (y - s2) * (y - s3) := by rw [hy]; grind
    rw [e]
    grind
  have z1 : (s1 - s1) * (s1 - s2) * (s1 - s3) = 0 := by grind
  have z2 : (s2 - s1) * (s2 - s2) * (s2 - s3) = 0 := by grind
  have z3 : (s3 - s1) * (s3 - s2) * (s3 - s3) = 0 := by grind
  have sq : ∀ x y : K, 0 ≤ x ∧ x ≤ 12 → 0 ≤ y ∧ y ≤ 12 → (x - y) * (x - y) ≤ 144 := fun x y hx hy => by
    have := sq_le (a := x - y) (B := 12) (by grind) (by grind); grind
  have e : ∀ y, f y * f y = ((y - t1) * (y - t1)) * (((y - t2) * (y - t2)) * ((y - t3) * (y - t3))) := fun y => by
    show ((y - t1) * (y - t2) * (y - t3)) * ((y - t1) * (y - t2) * (y - t3)) = _
    grind
  have pr2 : ∀ y : K, 0 ≤ y ∧ y ≤ 12 → ((y - t2) * (y - t2)) * ((y - t3) * (y - t3)) ≤ 20736 := fun y hy => by
    have := mul_le (sq_nn (y - t2)) (sq y t2 hy j2) (sq_nn (y - t3)) (sq y t3 hy j3); grind
  have bd : ∀ y : K, 0 ≤ y ∧ y ≤ 12 → f y * f y ≤ 2985984 := fun y hy => by
    rw [e]
    have := mul_le (sq_nn (y - t1)) (sq y t1 hy j1) (mul_nn (sq_nn (y - t2)) (sq_nn (y - t3))) (pr2 y hy)
    grind
  by_cases z : f s1 = 0
  · -- s1 is one of the others
    have : s1 = t2 ∨ s1 = t3 := by
      have z' : (s1 - t1) * (s1 - t2) * (s1 - t3) = 0 := z
      rcases mul_eq_zero z' with q | q
      · rcases mul_eq_zero q with q | q
        · exact absurd (by grind) ne
        · left; grind
      · right; grind
    rcases this with q | q
    · rw [q] at ne ⊢; exact tri_same g.swap ne
    · rw [q] at ne ⊢; exact tri_same g.turn.turn ne
  · have one : (1 : K) ≤ 2985984 := by
      have : ofQ 1 ≤ ofQ 2985984 := small_le (by decide +kernel)
      exact this
    have := tri_val (B := 2985984) h (F s1 z1) (F s2 z2) (F s3 z3) one (bd s2 i2) (bd s3 i3) z
    rw [e] at this
    have DDle : (20736 : K) * (2985984 * 2985984) ≤ DD := by
      have : ofQ (20736 * (2985984 * 2985984)) ≤ ofQ ((2 : Rat) ^ 60) := small_le (by decide +kernel)
      exact this
    have k0 : (0 : K) ≤ 2985984 * 2985984 := by
      have : ofQ 0 ≤ ofQ (2985984 * 2985984) := small_le (by decide +kernel)
      exact this
    have n := sq_nn (s1 - t1)
    have m0 := mul_nn (sq_nn (s1 - t2)) (sq_nn (s1 - t3))
    have k1 := mul_le (a := ((s1 - t2) * (s1 - t2)) * ((s1 - t3) * (s1 - t3))) (b := 20736) (c := 2985984 * 2985984) (d := 2985984 * 2985984) m0 (pr2 s1 i1) k0 (by grind)
    have k2 := mul_le (a := (s1 - t1) * (s1 - t1)) (b := (s1 - t1) * (s1 - t1)) (c := (((s1 - t2) * (s1 - t2)) * ((s1 - t3) * (s1 - t3))) * (2985984 * 2985984)) (d := DD) n (by grind) (mul_nn m0 k0) (by grind)
    grind
end MG

-- part MZ
namespace MG
open K
open Kqg1 (Poly trim coefficient)
/-! ## Every second coefficient -/
def spd : List K → List K
  | [] => []
  | [c] => [c]
  | c :: d :: l => c :: 0 :: spd (d :: l)
theorem ev_spd : ∀ (p : List K) (x : K), ev (spd p) x = ev p (x * x)
  | [], x => rfl
  | [c], x => by simp only [spd, ev]; grind
  | c :: d :: l, x => by
    have := ev_spd (d :: l) x
    show c + x * (0 + x * ev (spd (d :: l)) x) = c + x * x * ev (d :: l) (x * x)
    rw [this]; grind
theorem len_spd : ∀ (p : List K) (n : Nat), p.length = n + 1 → (spd p).length = 2 * n + 1
  | [], n, h => by simp at h
  | [c], n, h => by simp at h; simp [spd, h]
  | c :: d :: l, 0, h => by simp at h
  | c :: d :: l, n + 1, h => by
    have := len_spd (d :: l) n (by simp at *; omega)
    simp only [spd, List.length_cons] at *
    omega
theorem cf_spd : ∀ (p : List K) (i : Nat), cf (spd p) i = if i % 2 = 0 then cf p (i / 2) else 0
  | [], i => by simp only [spd, cf_nil]; split <;> rfl
  | [c], 0 => rfl
  | [c], i + 1 => by
    simp only [spd, cf_succ, cf_nil]
    split
    · obtain ⟨k, hk⟩ : ∃ k, (i + 1) / 2 = k + 1 := ⟨(i + 1) / 2 - 1, by omega⟩
      rw [hk, cf_succ, cf_nil]
    · rfl
  | c :: d :: l, 0 => rfl
  | c :: d :: l, 1 => rfl
  | c :: d :: l, i + 2 => by
    have := cf_spd (d :: l) i
    simp only [spd, cf_succ, this]
    rw [show (i + 2) / 2 = i / 2 + 1 by omega, cf_succ]
    by_cases h : i % 2 = 0
    · rw [if_pos h, if_pos (by omega)]
    · rw [if_neg h, if_neg (by omega)]
theorem sq_split : ∀ (m : Nat) (P rs : List K), P.length = m + 1 → cf P m = 1 → Sp (spd P) rs → ∃ ss, Sp P ss ∧ (∀ r, r ∈ rs → r * r ∈ ss) ∧ ∀ s, s ∈ ss → ∃ r, r ∈ rs ∧ s = r * r
  | 0, P, rs, hl, ht, h => by
    have l := h.len
    rw [len_spd P 0 hl] at l
    have : rs = [] := List.eq_nil_of_length_eq_zero (by omega)
    subst this
    match P, hl with
    | [c], _ =>
      rw [cf_zero] at ht
      subst ht
      exact ⟨[], ⟨rfl, fun x => by simp only [ev, prodL]; grind⟩, fun r hr => by simp at hr, fun s hs => by simp at hs⟩
  | m + 1, P, rs, hl, ht, h => by
    have l := h.len
    rw [len_spd P (m + 1) hl] at l
    match rs, l, h with
    | r :: rs', l, h =>
      have z : ev P (r * r) = 0 := by rw [← ev_spd, h.eq]; exact prodL_zero.mpr List.mem_cons_self
      have dv := ev_dv P (r * r)
      have k1 : ∀ x, ev (linL rs') x = ev (mulL [r, 1] (spd (dvL P (r * r)))) x := ev_cancel (r := r) fun x => by
        have e := h.eq x
        rw [ev_spd, dv (x * x), z] at e
        simp only [prodL] at e
        rw [ev_lin, ← e, ev_mul, ev_spd]
        simp only [ev]; grind
      have z2 : prodL rs' (-r) = 0 := by
        rw [← ev_lin, k1, ev_mul]
        simp only [ev]; grind
      have hm := prodL_zero.mp z2
      have pm := List.perm_cons_erase hm
      have k2 : ∀ x, ev (spd (dvL P (r * r))) x = ev (linL (rs'.erase (-r))) x := ev_cancel (r := -r) fun x => by
        have := k1 x
        rw [ev_lin, prodL_perm pm, ev_mul] at this
        simp only [prodL, ev] at this
        rw [ev_lin]; grind
      have l1 : (dvL P (r * r)).length = m + 1 := by rw [len_dv, hl]; rfl
      obtain ⟨ss, h1, h2, h3⟩ := sq_split m (dvL P (r * r)) (rs'.erase (-r)) l1 (by rw [cf_dv P (r * r) m hl, ht]) ⟨by
        have := pm.length_eq
        rw [len_spd _ m l1]; simp at this l ⊢; omega, fun x => by rw [k2 x, ev_lin]⟩
      refine ⟨r * r :: ss, ⟨by rw [hl, List.length_cons, ← h1.len, l1], fun x => ?_⟩, fun a ha => ?_, fun s hs => ?_⟩
      · rw [dv x, z, h1.eq]; simp only [prodL]; grind
      · rcases List.mem_cons.mp ha with q | q
        · rw [q]; exact List.mem_cons_self
        · rcases List.mem_cons.mp (pm.subset q) with w | w
          · rw [w, show -r * -r = r * r by grind]; exact List.mem_cons_self
          · exact List.mem_cons_of_mem _ (h2 a w)
      · rcases List.mem_cons.mp hs with q | q
        · exact ⟨r, List.mem_cons_self, q⟩
        · obtain ⟨a, ha, e⟩ := h3 s q
          exact ⟨a, List.mem_cons_of_mem _ (pm.symm.subset (List.mem_cons_of_mem _ ha)), e⟩
def sqI (n : Nat) (E : List (Edge Nat)) : List Int := (List.range (n / 2 + 1)).map fun i => (mp n E).getD (2 * i + n % 2) 0
theorem sqI_len (n : Nat) (E : List (Edge Nat)) : (sqI n E).length = n / 2 + 1 := by simp [sqI]
theorem cf_sqI (n : Nat) (E : List (Edge Nat)) (i : Nat) : cf (tz (sqI n E)) i = if i ≤ n / 2 then cf (tz (mp n E)) (2 * i + n % 2) else 0 := by
  rw [cf_tz, cf_tz]
  unfold sqI
  rw [List.getD_eq_getElem?_getD, List.getElem?_map]
  by_cases c : i ≤ n / 2
  · rw [if_pos c, List.getElem?_range (by omega)]; rfl
  · rw [if_neg c, List.getElem?_eq_none (by simp; omega)]; rfl
theorem sqI_top (n : Nat) (E : List (Edge Nat)) : cf (tz (sqI n E)) (n / 2) = 1 := by
  rw [cf_sqI, if_pos (Nat.le_refl _), show 2 * (n / 2) + n % 2 = n by omega, mp_top]
theorem mp_spd (n : Nat) (E : List (Edge Nat)) (x : K) : ev (tz (mp n E)) x = (if n % 2 = 0 then 1 else x) * ev (spd (tz (sqI n E))) x := by
  by_cases h : n % 2 = 0
  · rw [if_pos h]
    have : ev (tz (mp n E)) x = ev (spd (tz (sqI n E))) x := ev_of_cf (fun i => by
      rw [cf_spd, cf_sqI, cf_mp]
      by_cases p : i % 2 = 0
      · rw [if_pos p, h, Nat.add_zero, show 2 * (i / 2) = i by omega]
        by_cases c : i ≤ n
        · rw [if_pos c, if_pos (show i / 2 ≤ n / 2 by omega), cf_mp, if_pos c]
        · rw [if_neg c, if_neg (show ¬ i / 2 ≤ n / 2 by omega)]
      · rw [if_neg p]
        by_cases c : i ≤ n
        · rw [if_pos c, if_pos (by omega)]
        · rw [if_neg c]) x
    rw [this]; grind
  · rw [if_neg h]
    have e : x * ev (spd (tz (sqI n E))) x = ev (0 :: spd (tz (sqI n E))) x := by simp only [ev]; grind
    rw [e]
    refine ev_of_cf (fun i => ?_) x
    cases i with
    | zero =>
      rw [cf_zero, cf_mp, if_pos (Nat.zero_le _), if_pos (by omega)]
    | succ i =>
      rw [cf_succ, cf_spd, cf_sqI, cf_mp]
      by_cases p : i % 2 = 0
      · rw [if_pos p, show 2 * (i / 2) + n % 2 = i + 1 by omega]
        by_cases c : i + 1 ≤ n
        · rw [if_pos c, if_pos (show i / 2 ≤ n / 2 by omega), cf_mp, if_pos c]
        · rw [if_neg c, if_neg (show ¬ i / 2 ≤ n / 2 by omega)]
      · rw [if_neg p]
        by_cases c : i + 1 ≤ n
        · rw [if_pos c, if_pos (by omega)]
        · rw [if_neg c]
theorem sq_sp {n : Nat} {E : List (Edge Nat)} {rs : List K} (h : Sp (tz (mp n E)) rs) : ∃ ss, Sp (tz (sqI n E)) ss ∧ (∀ r, r ∈ rs → r = 0 ∨ r * r ∈ ss) ∧ ∀ s, s ∈ ss → 0 ≤ s := by
  have l1 : (tz (sqI n E)).length = n / 2 + 1 := by rw [len_tz, sqI_len]
  have hl := h.len
  rw [len_tz, mp_len] at hl
  by_cases p : n % 2 = 0
  · have hs : Sp (spd (tz (sqI n E))) rs := ⟨by rw [len_spd _ _ l1]; omega, fun x => by
      have := mp_spd n E x
      rw [if_pos p, h.eq] at this; grind⟩
    obtain ⟨ss, h1, h2, h3⟩ := sq_split _ _ _ l1 (sqI_top n E) hs
    exact ⟨ss, h1, fun r hr => .inr (h2 r hr), fun s hs => by obtain ⟨r, _, e⟩ := h3 s hs; rw [e]; exact sq_nn r⟩
  · have z : (0 : K) ∈ rs := by
      rw [← prodL_zero, ← h.eq]
      have := mp_spd n E 0
      rw [if_neg p] at this; rw [this]; grind
    have pm := List.perm_cons_erase z
    have hs : Sp (spd (tz (sqI n E))) (rs.erase 0) := ⟨by
      have := pm.length_eq
      rw [List.length_cons] at this
      rw [len_spd _ _ l1]; omega, fun x => by
      have k : ∀ x, ev (spd (tz (sqI n E))) x = ev (linL (rs.erase 0)) x := ev_cancel (r := 0) fun x => by
        have := mp_spd n E x
        rw [if_neg p, h.eq, prodL_perm pm] at this
        simp only [prodL] at this
        rw [ev_lin]; grind
      rw [k x, ev_lin]⟩
    obtain ⟨ss, h1, h2, h3⟩ := sq_split _ _ _ l1 (sqI_top n E) hs
    refine ⟨ss, h1, fun r hr => ?_, fun s hs => by obtain ⟨r, _, e⟩ := h3 s hs; rw [e]; exact sq_nn r⟩
    rcases List.mem_cons.mp (pm.subset hr) with q | q
    · exact .inl q
    · exact .inr (h2 r q)
theorem cnt_one : ∀ E : List (Edge Nat), cnt E 1 = E.length
  | [] => rfl
  | e :: E => by rw [cnt_cons, cnt_one E, cnt_zero]; rfl
/-- where the squares of the roots lie -/
def Near (x : K) : Prop := (x = 0 ∨ ∃ s t, Tri (x * x) s t) ∧ x * x ≤ 12
theorem graph_near {n : Nat} {E : List (Edge Nat)} {rs : List K} (h : Sp (tz (mp n E)) rs) (hn : n ≤ 7) (hE : E.length ≤ 12) : ∀ r, r ∈ rs → Near r := by
  obtain ⟨ss, h1, h2, h3⟩ := sq_sp h
  have ls : ss.length = n / 2 := by have := h1.len; rw [len_tz, sqI_len] at this; omega
  have co : ∀ i, cf (tz (sqI n E)) i = cf (linL ss) i := cf_ext (fun x => by rw [h1.eq, ev_lin])
  have ci : ∀ i, ∃ z : Int, cf (linL ss) i = ic z := fun i => ⟨_, by rw [← co, cf_tz]⟩
  have c1 : ∀ k, n / 2 = k + 1 → cf (linL ss) k = - ic (E.length : Nat) := fun k hk => by
    rw [← co, cf_sqI, if_pos (by omega), cf_mp, if_pos (by omega), if_neg (by omega), show (n - (2 * k + n % 2)) / 2 = 1 by omega, cnt_one]
    show ic (-1 * _) = _
    rw [ic_mul, ic_neg, ic_one]; grind
  have e12 : ic (E.length : Nat) ≤ 12 := by
    have : ic ((E.length : Nat) : Int) ≤ ic 12 := ic_le.mpr (by omega)
    exact this
  have t12 : (0 : K) ≤ 12 := by
    have : ic 0 ≤ ic 12 := ic_le.mpr (by decide)
    exact this
  -- the three
  have tri : ∀ s, s ∈ ss → ∃ a b, Tri s a b := by
    match ss, ls, h3, ci, c1 with
    | [], _, _, _, _ => intro s hs; simp at hs
    | [a], ls, h3, ci, c1 =>
      have p := h3 a List.mem_cons_self
      have q := c1 0 (by simp at ls; omega)
      have q' : cf (linL [a]) 0 = -a := by
        simp only [linL, subL, smulL, addL, cf_zero]; grind
      rw [q'] at q
      have T : Tri a 0 0 := ⟨⟨E.length, 0, 0, by grind, by rw [ic_zero]; grind, by rw [ic_zero]; grind⟩, by constructor <;> grind, ⟨by grind, t12⟩, ⟨by grind, t12⟩⟩
      intro s hs
      rw [show s = a by simpa using hs]
      exact ⟨_, _, T⟩
    | [a, b], ls, h3, ci, c1 =>
      have pa := h3 a List.mem_cons_self
      have pb := h3 b (by simp)
      have q := c1 1 (by simp at ls; omega)
      have q' : cf (linL [a, b]) 1 = -(a + b) := by
        simp only [linL, subL, smulL, addL, cf_zero, cf_succ]; grind
      rw [q'] at q
      obtain ⟨z, hz⟩ := ci 0
      have z' : cf (linL [a, b]) 0 = a * b := by
        simp only [linL, subL, smulL, addL, cf_zero]; grind
      rw [z'] at hz
      have T : Tri a b 0 := ⟨⟨E.length, z, 0, by grind, by rw [← hz]; grind, by rw [ic_zero]; grind⟩, by constructor <;> grind, by constructor <;> grind, ⟨by grind, t12⟩⟩
      intro s hs
      rcases List.mem_cons.mp hs with w | w
      · rw [w]; exact ⟨_, _, T⟩
      · rw [show s = b by simpa using w]; exact ⟨_, _, T.swap⟩
    | [a, b, c], ls, h3, ci, c1 =>
      have pa := h3 a List.mem_cons_self
      have pb := h3 b (by simp)
      have pc := h3 c (by simp)
      have q := c1 2 (by simp at ls; omega)
      have q' : cf (linL [a, b, c]) 2 = -(a + b + c) := by
        simp only [linL, subL, smulL, addL, cf_zero, cf_succ]; grind
      rw [q'] at q
      obtain ⟨z, hz⟩ := ci 1
      obtain ⟨y, hy⟩ := ci 0
      have z' : cf (linL [a, b, c]) 1 = a * b + a * c + b * c := by
        simp only [linL, subL, smulL, addL, cf_zero, cf_succ]; grind
      have y' : cf (linL [a, b, c]) 0 = -(a * b * c) := by
        simp only [linL, subL, smulL, addL, cf_zero]; grind
      rw [z'] at hz
      rw [y'] at hy
      have T : Tri a b c := ⟨⟨E.length, z, -y, by grind, hz, by rw [ic_neg, ← hy]; grind⟩, by constructor <;> grind, by constructor <;> grind, by constructor <;> grind⟩
      intro s hs
      rcases List.mem_cons.mp hs with w | w
      · rw [w]; exact ⟨_, _, T⟩
      · rcases List.mem_cons.mp w with w | w
        · rw [w]; exact ⟨_, _, T.swap⟩
        · rw [show s = c by simpa using w]; exact ⟨_, _, T.turn.turn⟩
    | _ :: _ :: _ :: _ :: _, ls, _, _, _ => simp at ls; omega
  intro r hr
  rcases h2 r hr with q | q
  · exact ⟨.inl q, by rw [q]; grind⟩
  · obtain ⟨a, b, T⟩ := tri _ q
    exact ⟨.inr ⟨a, b, T⟩, T.in1.2⟩
theorem Near.eight {x : K} (h : Near x) : -8 < x ∧ x < 8 := by
  have l : (12 : K) < 64 := by
    have : ic 12 < ic 64 := ic_lt.mpr (by decide)
    exact this
  have p : (0 : K) < 8 := by
    have : ic 0 < ic 8 := ic_lt.mpr (by decide)
    exact this
  have h2 := h.2
  constructor
  · refine Classical.byContradiction fun c => ?_
    have := mul_nn (a := -8 - x) (b := -8 - x) (by grind) (by grind)
    have := mul_nn (a := -8 - x) (b := 8) (by grind) (by grind)
    grind
  · refine Classical.byContradiction fun c => ?_
    have := mul_nn (a := x - 8) (b := x - 8) (by grind) (by grind)
    have := mul_nn (a := x - 8) (b := 8) (by grind) (by grind)
    grind
theorem near_sep {x y : K} (hx : Near x) (hy : Near y) (ne : x ≠ y) : 1 ≤ (x - y) * (x - y) * (256 * DD) := by
  have ex := hx.eight
  have ey := hy.eight
  have D0 : (0 : K) ≤ DD := by
    have : ofQ 0 ≤ ofQ ((2 : Rat) ^ 60) := small_le (by decide +kernel)
    exact this
  have n := sq_nn (x - y)
  have sm : (x + y) * (x + y) ≤ 256 := by
    have := sq_le (a := x + y) (B := 16) (by grind) (by grind); grind
  have n2 := sq_nn (x + y)
  by_cases q : x * x = y * y
  · have yx : y = -x := by
      rcases mul_eq_zero (a := x - y) (b := x + y) (by grind) with c | c
      · exact absurd (by grind) ne
      · grind
    subst yx
    have x0 : x ≠ 0 := fun z => ne (by rw [z]; grind)
    rcases hx.1 with c | ⟨s, t, T⟩
    · exact absurd c x0
    · have := tri_zero T (mul_ne x0 x0)
      have nx := sq_nn x
      have k0 := mul_le (a := x * x) (b := x * x) (c := x * x) (d := 12) nx (by grind) nx hx.2
      have k1 := mul_le (a := (x * x) * (x * x)) (b := x * x * 12) (c := DD) (d := DD) (mul_nn nx nx) k0 D0 (by grind)
      have k2 := mul_nn (a := x * x) (b := DD) nx D0
      grind
  · have main : 1 ≤ (x * x - y * y) * (x * x - y * y) * DD := by
      rcases hx.1 with c | ⟨s, t, T⟩
      · rcases hy.1 with d | ⟨s', t', T'⟩
        · exact absurd (by rw [c, d]) ne
        · have y0 : y ≠ 0 := fun z => ne (by rw [c, z])
          have := tri_zero T' (mul_ne y0 y0)
          rw [c]; grind
      · rcases hy.1 with d | ⟨s', t', T'⟩
        · have x0 : x ≠ 0 := fun z => ne (by rw [d, z])
          have := tri_zero T (mul_ne x0 x0)
          rw [d]; grind
        · exact tri_two T T' q
    have e : (x * x - y * y) * (x * x - y * y) = ((x - y) * (x - y)) * ((x + y) * (x + y)) := by grind
    rw [e] at main
    have k1 := mul_le (a := (x + y) * (x + y)) (b := 256) (c := DD) (d := DD) n2 sm D0 (by grind)
    have k2 := mul_le (a := (x - y) * (x - y)) (b := (x - y) * (x - y)) (c := ((x + y) * (x + y)) * DD) (d := 256 * DD) n (by grind) (mul_nn n2 D0) k1
    grind
end MG

-- part NA
namespace MG
open K
open Kqg1 (Poly trim coefficient)
/-! ## Interlacing, as the specification tells it -/
theorem two_in {l : List K} (hn : l.Nodup) (p : K → Bool) (h : 2 ≤ l.countP p) : ∃ x y, x ∈ l ∧ y ∈ l ∧ x ≠ y ∧ p x = true ∧ p y = true := by
  rw [List.countP_eq_length_filter] at h
  match e : l.filter p, h with
  | x :: y :: r, _ =>
    have mx : x ∈ l.filter p := by rw [e]; exact List.mem_cons_self
    have my : y ∈ l.filter p := by rw [e]; simp
    have nd : (l.filter p).Nodup := hn.sublist List.filter_sublist
    rw [e] at nd
    have ne : x ≠ y := fun q => (List.nodup_cons.mp nd).1 (by rw [q]; exact List.mem_cons_self)
    exact ⟨x, y, (List.mem_filter.mp mx).1, (List.mem_filter.mp my).1, ne, (List.mem_filter.mp mx).2, (List.mem_filter.mp my).2⟩
theorem atl_between (l : List K) {a b : K} (h : a ≤ b) : atl l a = atl l b + l.countP (fun r => decide (a ≤ r) && decide (r < b)) := by
  induction l with
  | nil => rfl
  | cons r l ih =>
    rw [atl_cons, atl_cons, List.countP_cons, ih]
    by_cases c : b ≤ r
    · rw [if_pos (by grind), if_pos c, if_neg (by simp; grind)]; omega
    · by_cases d : a ≤ r
      · rw [if_pos d, if_neg c, if_pos (by simp; grind)]; omega
      · rw [if_neg d, if_neg c, if_neg (by simp; grind)]; omega
theorem scale_le {m m' : Int} {s : Rat} (hs : 0 < s) (h : m ≤ m') : ofQ ((m : Rat) / s) ≤ ofQ ((m' : Rat) / s) := by
  have := Rat.div_lt_iff (a := (m' : Rat)) (c := (m : Rat) / s) hs
  rw [ofQ_le, ← Rat.not_lt, this, Rat.div_mul_cancel (by grind), Rat.not_lt]
  exact Rat.intCast_le_intCast.mpr h
/-- what the floors of all roots tell -/
structure Floors (js : List K) (s : Rat) (z : Nat → Int) : Prop where
  pos : 0 < s
  fl : ∀ k, k < js.length → IsFl js s k (z k)
theorem Floors.mono {js : List K} {s : Rat} {z : Nat → Int} (h : Floors js s z) {k l : Nat} (hkl : k ≤ l) (hl : l < js.length) : z k ≤ z l := by
  have a := (h.fl k (by omega) (z k)).mpr (Int.le_refl _)
  exact (h.fl l hl (z k)).mp (by omega)
theorem Floors.nodup {js : List K} {s : Rat} {z : Nat → Int} (h : Floors js s z) (hn : js.Nodup) (sep : ∀ x, x ∈ js → ∀ y, y ∈ js → x ≠ y → 1 ≤ (x - y) * (x - y) * (ofQ s * ofQ s)) : ((List.range js.length).map z).Nodup := by
  rw [List.nodup_iff_pairwise_ne, List.pairwise_map]
  refine List.Pairwise.imp_of_mem ?_ List.pairwise_lt_range
  intro k l _ hl lt e
  rw [List.mem_range] at hl
  have a := (h.fl k (by omega) (z k)).mpr (Int.le_refl _)
  have b : ¬ (js.length - l ≤ atl js (ofQ (((z k + 1 : Int) : Rat) / s))) := fun q => by
    have := (h.fl l hl _).mp q
    omega
  have bt := atl_between js (scale_le h.pos (show z k ≤ z k + 1 by omega))
  obtain ⟨x, y, hx, hy, ne, px, py⟩ := two_in hn (fun r => decide (ofQ ((z k : Rat) / s) ≤ r) && decide (r < ofQ (((z k + 1 : Int) : Rat) / s))) (by omega)
  simp only [Bool.and_eq_true, decide_eq_true_eq] at px py
  have sp := sep x hx y hy ne
  have wd : ofQ (((z k + 1 : Int) : Rat) / s) * ofQ s = ofQ ((z k : Rat) / s) * ofQ s + 1 := by
    rw [← ofQ_mul, ← ofQ_mul, Rat.div_mul_cancel (by have := h.pos; grind), Rat.div_mul_cancel (by have := h.pos; grind), Rat.intCast_add, ofQ_add]; rfl
  have ps := ofQ_pos h.pos
  generalize ofQ (((z k + 1 : Int) : Rat) / s) = hi at *
  generalize ofQ ((z k : Rat) / s) = lo at *
  generalize ofQ s = S at *
  have m1 := K.mul_pos (a := hi - x) (b := S) (by grind) ps
  have m2 := mul_nn (a := x - lo) (b := S) (by grind) (by grind)
  have m3 := K.mul_pos (a := hi - y) (b := S) (by grind) ps
  have m4 := mul_nn (a := y - lo) (b := S) (by grind) (by grind)
  clear bt a b sep h
  have q := K.mul_pos (a := 1 - (x - y) * S) (b := 1 + (x - y) * S) (by grind) (by grind)
  grind
/-- nothing lies between a floor's box and the next one -/
theorem Floors.gap {js : List K} {s : Rat} {z : Nat → Int} (h : Floors js s z) {k : Nat} (hk : k + 1 < js.length) (lt : z k < z (k + 1)) : ∀ r, r ∈ js → ofQ (((z k + 1 : Int) : Rat) / s) ≤ r → ofQ ((z (k + 1) : Rat) / s) ≤ r := by
  have a := (h.fl (k + 1) hk (z (k + 1))).mpr (Int.le_refl _)
  have b : ¬ (js.length - k ≤ atl js (ofQ (((z k + 1 : Int) : Rat) / s))) := fun q => by
    have := (h.fl k (by omega) _).mp q
    omega
  have bt := atl_between js (scale_le h.pos (show z k + 1 ≤ z (k + 1) by omega))
  have c0 : js.countP (fun r => decide (ofQ (((z k + 1 : Int) : Rat) / s) ≤ r) && decide (r < ofQ ((z (k + 1) : Rat) / s))) = 0 := by omega
  rw [List.countP_eq_zero] at c0
  intro r hr h1
  have := c0 r hr
  simp only [Bool.and_eq_true, decide_eq_true_eq] at this
  grind
theorem Floors.last {js : List K} {s : Rat} {z : Nat → Int} (h : Floors js s z) {k : Nat} (hk : k + 1 = js.length) : ∀ r, r ∈ js → r < ofQ (((z k + 1 : Int) : Rat) / s) := by
  have b : ¬ (js.length - k ≤ atl js (ofQ (((z k + 1 : Int) : Rat) / s))) := fun q => by
    have := (h.fl k (by omega) _).mp q
    omega
  have c0 : atl js (ofQ (((z k + 1 : Int) : Rat) / s)) = 0 := by omega
  intro r hr
  rw [atl, List.countP_eq_zero] at c0
  have := c0 r hr
  simp only [decide_eq_true_eq] at this
  grind
theorem atl_same {l : List K} {a b : K} (h : a ≤ b) (g : ∀ r, r ∈ l → a ≤ r → b ≤ r) : atl l a = atl l b := by
  rw [atl_between l h]
  have : l.countP (fun r => decide (a ≤ r) && decide (r < b)) = 0 := by
    rw [List.countP_eq_zero]
    intro r hr
    simp only [Bool.and_eq_true, decide_eq_true_eq]
    intro q
    have := g r hr q.1
    grind
  omega
/-- one turn of the leads -/
def lstep (acc : List Int × Int) (x : Nat × Nat) : List Int × Int :=
  let lead := acc.2 + (x.1 : Int) - (x.2 : Int)
  (acc.1 ++ [lead], lead)
theorem leads_eq (l : List (Nat × Nat)) : Kqg2.leads l = (l.reverse.foldl lstep ([], 0)).1 := rfl
theorem interlaces_core {js rs ts : List K} {s : Rat} {z : Nat → Int} {cp cq : List (List Poly)} (h : Floors js s z) (hz : ((List.range js.length).map z).Nodup)
    (tp : Told cp rs) (tq' : Told cq ts) (hp : ∀ r, r ∈ rs → r ∈ js) (hq : ∀ r, r ∈ ts → r ∈ js) (il : ∀ x, atl ts x ≤ atl rs x ∧ atl rs x ≤ atl ts x + 1) :
    ∀ m k : Nat, k + m = js.length → (∀ d, d ∈ (((List.range' k m).map fun j => (Kqg1.countBelowByChains cp (((z j + 1 : Int) : Rat) / s) - Kqg1.countBelowByChains cp ((z j : Rat) / s), Kqg1.countBelowByChains cq (((z j + 1 : Int) : Rat) / s) - Kqg1.countBelowByChains cq ((z j : Rat) / s))).reverse.foldl lstep ([], 0)).1 → d = 0 ∨ d = 1) ∧
      (((List.range' k m).map fun j => (Kqg1.countBelowByChains cp (((z j + 1 : Int) : Rat) / s) - Kqg1.countBelowByChains cp ((z j : Rat) / s), Kqg1.countBelowByChains cq (((z j + 1 : Int) : Rat) / s) - Kqg1.countBelowByChains cq ((z j : Rat) / s))).reverse.foldl lstep ([], 0)).2 = (if m = 0 then 0 else (atl rs (ofQ ((z k : Rat) / s)) : Int) - (atl ts (ofQ ((z k : Rat) / s)) : Int))
  | 0, k, _ => ⟨fun d hd => by simp at hd, rfl⟩
  | m + 1, k, hk => by
    obtain ⟨ih1, ih2⟩ := interlaces_core h hz tp tq' hp hq il m (k + 1) (by omega)
    rw [List.range'_succ, List.map_cons, List.reverse_cons, List.foldl_append]
    generalize (((List.range' (k + 1) m).map fun j => (Kqg1.countBelowByChains cp (((z j + 1 : Int) : Rat) / s) - Kqg1.countBelowByChains cp ((z j : Rat) / s), Kqg1.countBelowByChains cq (((z j + 1 : Int) : Rat) / s) - Kqg1.countBelowByChains cq ((z j : Rat) / s))).reverse.foldl lstep ([], 0)) = acc at ih1 ih2
    have ll := scale_le h.pos (show z k ≤ z k + 1 by omega)
    -- each list: what lies in the box
    have box : ∀ {c : List (List Poly)} {l : List K}, Told c l → (∀ r, r ∈ l → r ∈ js) → (if m = 0 then 0 else (atl l (ofQ ((z (k + 1) : Rat) / s)) : Int)) + ((Kqg1.countBelowByChains c (((z k + 1 : Int) : Rat) / s) - Kqg1.countBelowByChains c ((z k : Rat) / s) : Nat) : Int) = atl l (ofQ ((z k : Rat) / s)) := fun {c l} tl hl => by
      rw [tl.below, tl.below]
      have a1 := atl_le l (ofQ (((z k + 1 : Int) : Rat) / s))
      have a2 := atl_le l (ofQ ((z k : Rat) / s))
      have a3 := atl_anti l ll
      by_cases m0 : m = 0
      · rw [if_pos m0]
        have : atl l (ofQ (((z k + 1 : Int) : Rat) / s)) = 0 := atl_zero fun r hr => h.last (by omega) r (hl r hr)
        omega
      · rw [if_neg m0]
        have lt : z k < z (k + 1) := by
          have le := h.mono (show k ≤ k + 1 by omega) (by omega)
          have ne : z k ≠ z (k + 1) := by
            rw [List.nodup_iff_pairwise_ne, List.pairwise_map] at hz
            have := List.pairwise_iff_getElem.mp hz k (k + 1) (by simp; omega) (by simp; omega) (by omega)
            simpa using this
          omega
        have : atl l (ofQ (((z k + 1 : Int) : Rat) / s)) = atl l (ofQ ((z (k + 1) : Rat) / s)) := atl_same (scale_le h.pos (by omega)) fun r hr => h.gap (by omega) lt r (hl r hr)
        omega
    have bp := box tp hp
    have bq := box tq' hq
    have i := il (ofQ ((z k : Rat) / s))
    have e2 : (acc.2 + ((Kqg1.countBelowByChains cp (((z k + 1 : Int) : Rat) / s) - Kqg1.countBelowByChains cp ((z k : Rat) / s) : Nat) : Int) - ((Kqg1.countBelowByChains cq (((z k + 1 : Int) : Rat) / s) - Kqg1.countBelowByChains cq ((z k : Rat) / s) : Nat) : Int)) = (atl rs (ofQ ((z k : Rat) / s)) : Int) - (atl ts (ofQ ((z k : Rat) / s)) : Int) := by
      rw [ih2]
      by_cases m0 : m = 0
      · rw [if_pos m0] at bp bq ⊢; omega
      · rw [if_neg m0] at bp bq ⊢; omega
    refine ⟨fun d hd => ?_, ?_⟩
    · simp only [List.foldl_cons, List.foldl_nil, lstep] at hd
      rcases List.mem_append.mp hd with q | q
      · exact ih1 d q
      · rw [List.mem_singleton.mp q, e2]; omega
    · simp only [List.foldl_cons, List.foldl_nil, lstep]
      rw [e2, if_neg (by omega)]
theorem sep64 {l : List K} (near : ∀ r, r ∈ l → Near r) : ∀ x, x ∈ l → ∀ y, y ∈ l → x ≠ y → 1 ≤ (x - y) * (x - y) * (ofQ ((2 ^ 64 : Nat) : Rat) * ofQ ((2 ^ 64 : Nat) : Rat)) := fun x hx y hy ne => by
  have := near_sep (near x hx) (near y hy) ne
  have n := sq_nn (x - y)
  have le : (256 : K) * DD ≤ ofQ ((2 ^ 64 : Nat) : Rat) * ofQ ((2 ^ 64 : Nat) : Rat) := by
    have : ofQ (256 * (2 : Rat) ^ 60) ≤ ofQ (((2 ^ 64 : Nat) : Rat) * ((2 ^ 64 : Nat) : Rat)) := small_le (by decide +kernel)
    rw [ofQ_mul, ofQ_mul] at this
    exact this
  have D0 : (0 : K) ≤ 256 * DD := by
    have : ofQ 0 ≤ ofQ (256 * (2 : Rat) ^ 60) := small_le (by decide +kernel)
    rw [ofQ_mul] at this
    exact this
  generalize ofQ ((2 ^ 64 : Nat) : Rat) * ofQ ((2 ^ 64 : Nat) : Rat) = S at *
  generalize 256 * DD = T at *
  have := mul_le (a := (x - y) * (x - y)) (b := (x - y) * (x - y)) n (by grind) D0 le
  grind
theorem precision_ok {C : List (List Poly)} {B n : Nat} (h : (Kqg2.rootFloors C B n 64).Nodup) : ∃ bits, (Kqg2.precisions.find? fun bits => decide (Kqg2.rootFloors C B n bits).Nodup).getD 32768 = bits ∧ (Kqg2.rootFloors C B n bits).Nodup := by
  have m64 : 64 ∈ Kqg2.precisions := List.mem_map.mpr ⟨6, by decide, rfl⟩
  generalize Kqg2.precisions = L at m64 ⊢
  cases e : (L.find? fun bits => decide (Kqg2.rootFloors C B n bits).Nodup) with
  | none =>
    rw [List.find?_eq_none] at e
    have := e 64 m64
    rw [decide_eq_true_eq] at this
    exact absurd h this
  | some b =>
    have := List.find?_some e
    rw [decide_eq_true_eq] at this
    exact ⟨b, rfl, this⟩
theorem interlaces_is {p q : Poly} {rs ts : List K} (hp : Sp (tk p) rs) (hq : Sp (tk q) ts) (ne : rs ≠ []) (il : ∀ x, atl ts x ≤ atl rs x ∧ atl rs x ≤ atl ts x + 1)
    (near : ∀ r, r ∈ rs ++ ts → Near r) : Kqg2.interlaces p q = true := by
  have hm : Sp (tk (Kqg1.multiply p q)) (rs ++ ts) := Sp.mkq (tr_mul p q) (fun x => by rw [tk_mul, hp.eq, hq.eq, prodL_app])
  obtain ⟨js, gs, hj, _, pm, nd, _, all⟩ := layer hm (by simp [ne])
  have sub : ∀ r, r ∈ js → r ∈ rs ++ ts := fun r hr => pm.symm.subset (List.mem_append_left _ hr)
  have sep := sep64 (l := js) fun r hr => near r (sub r hr)
  have tj := told_of hj
  have rb := root_bound hj
  unfold Kqg2.interlaces
  rw [realRooted_is hp, realRooted_is hq, Bool.true_and, Bool.true_and]
  unfold Kqg2.jointMultiplicities Kqg2.jointPolynomial
  dsimp only
  generalize Kqg1.squarefree (Kqg1.multiply p q) = J at hj tj rb ⊢
  generalize Kqg1.rootBound J = B at rb ⊢
  generalize Kqg1.layerChains J = C at tj ⊢
  have tp := told_of hp
  have tq2 := told_of hq
  generalize Kqg1.layerChains p = cp at tp ⊢
  generalize Kqg1.layerChains q = cq at tq2 ⊢
  have F : ∀ bits, Floors js ((2 ^ bits : Nat) : Rat) (fun k => Kqg1.rootFloorByChains C B k bits) := fun bits =>
    ⟨two_pow_pos bits, fun k hk => floor_chains tj rb hk⟩
  have n64 : (Kqg2.rootFloors C B js.length 64).Nodup := by
    unfold Kqg2.rootFloors
    exact (F 64).nodup nd sep
  have hall : Kqg1.countByChains C .minusInfinity .plusInfinity = js.length := tj.all
  rw [hall]
  -- the precision that is found
  obtain ⟨bits, hb, hbn⟩ := precision_ok n64
  simp only [hb]
  rw [List.all_eq_true]
  intro d hd
  have jm : (Kqg2.rootFloors C B js.length bits).map (fun m => (Kqg1.countBelowByChains cp (Kqg1.dyadic (m + 1) bits) - Kqg1.countBelowByChains cp (Kqg1.dyadic m bits), Kqg1.countBelowByChains cq (Kqg1.dyadic (m + 1) bits) - Kqg1.countBelowByChains cq (Kqg1.dyadic m bits))) =
      (List.range' 0 js.length).map fun j => (Kqg1.countBelowByChains cp (((Kqg1.rootFloorByChains C B j bits + 1 : Int) : Rat) / ((2 ^ bits : Nat) : Rat)) - Kqg1.countBelowByChains cp ((Kqg1.rootFloorByChains C B j bits : Rat) / ((2 ^ bits : Nat) : Rat)), Kqg1.countBelowByChains cq (((Kqg1.rootFloorByChains C B j bits + 1 : Int) : Rat) / ((2 ^ bits : Nat) : Rat)) - Kqg1.countBelowByChains cq ((Kqg1.rootFloorByChains C B j bits : Rat) / ((2 ^ bits : Nat) : Rat))) := by
    rw [← List.range_eq_range']
    unfold Kqg2.rootFloors
    rw [List.map_map]
    rfl
  rw [jm, leads_eq] at hd
  have := (interlaces_core (F bits) hbn tp tq2 (fun r hr => all r (List.mem_append_left _ hr)) (fun r hr => all r (List.mem_append_right _ hr)) il js.length 0 (by omega)).1 d hd
  rcases this with q | q <;> rw [q] <;> rfl
end MG

-- part NB
namespace MG
open K
open Kqg1 (Poly trim coefficient)
/-! ## Matching polynomials of forests -/
section
variable {α : Type} [DecidableEq α]
theorem mp_congr (n : Nat) {β : Type} [DecidableEq β] {E : List (Edge α)} {F : List (Edge β)} (h : ∀ k, cnt E k = cnt F k) : mp n E = mp n F := by
  unfold mp
  congr 1
  funext i
  rw [h]
theorem off_len (E : List (Edge α)) (e : Edge α) : (off E e).length ≤ E.length := List.length_filter_le _ _
theorem cnt_perm_n : ∀ (n : Nat) (E F : List (Edge α)), E.Perm F → E.length ≤ n → ∀ k, cnt E k = cnt F k := by
  intro n
  induction n with
  | zero =>
    intro E F p h k
    have : E = [] := List.eq_nil_of_length_eq_zero (Nat.le_zero.mp h)
    subst this
    rw [List.Perm.eq_nil p.symm]
  | succ n IH =>
    intro E F p
    induction p with
    | nil => intro _ k; rfl
    | @cons e E F p ih =>
      intro h k
      simp only [List.length_cons] at h
      cases k with
      | zero => rw [cnt_zero, cnt_zero]
      | succ k =>
        rw [cnt_cons, cnt_cons, IH E F p (by omega) (k + 1), IH (off E e) (off F e) (p.filter _) (by have := off_len E e; omega) k]
    | @swap e f E =>
      intro h k
      cases k with
      | zero => rw [cnt_zero, cnt_zero]
      | succ k =>
        rw [cnt_cons, cnt_cons, cnt_cons, cnt_cons]
        by_cases a : apart e f = true
        · have a' : apart f e = true := by rw [apart_comm]; exact a
          have o1 : off (e :: E) f = e :: off E f := by simp [off, a']
          have o2 : off (f :: E) e = f :: off E e := by simp [off, a]
          rw [o1, o2]
          cases k with
          | zero => simp only [cnt_zero]
          | succ k =>
            rw [cnt_cons, cnt_cons, show off (off E f) e = off (off E e) f from filter_comm _ _ _]; omega
        · have a' : ¬ apart f e = true := by rw [apart_comm]; exact a
          have o1 : off (e :: E) f = off E f := by simp [off, a']
          have o2 : off (f :: E) e = off E e := by simp [off, a]
          rw [o1, o2]; omega
    | @trans E F G p1 p2 ih1 ih2 =>
      intro h k
      rw [ih1 h k, ih2 (by rw [← p1.length_eq]; exact h) k]
theorem cnt_perm {E F : List (Edge α)} (p : E.Perm F) (k : Nat) : cnt E k = cnt F k := cnt_perm_n _ E F p (Nat.le_refl _) k
theorem cnt_map {β : Type} [DecidableEq β] (g : α → β) : ∀ (n : Nat) (E : List (Edge α)), E.length ≤ n → (∀ e, e ∈ E → ∀ f, f ∈ E → (∀ a, a = e.1 ∨ a = e.2 → ∀ b, b = f.1 ∨ b = f.2 → g a = g b → a = b)) → ∀ k, cnt (E.map fun e => (g e.1, g e.2)) k = cnt E k
  | _, [], _, _, k => by
    cases k with
    | zero => simp only [cnt_zero]
    | succ k => rfl
  | 0, e :: E, h, _, _ => by simp at h
  | n + 1, e :: E, h, inj, k => by
    cases k with
    | zero => rw [cnt_zero, cnt_zero]
    | succ k =>
      rw [List.map_cons, cnt_cons, cnt_cons, cnt_map g n E (by simp at h; omega) (fun a ha b hb => inj a (List.mem_cons_of_mem _ ha) b (List.mem_cons_of_mem _ hb))]
      have o : off (E.map fun e => (g e.1, g e.2)) (g e.1, g e.2) = (off E e).map fun e => (g e.1, g e.2) := by
        unfold off
        rw [List.filter_map]
        congr 1
        apply List.filter_congr
        intro f hf
        have q := inj f (List.mem_cons_of_mem _ hf) e List.mem_cons_self
        show apart (g e.1, g e.2) (g f.1, g f.2) = apart e f
        rw [Bool.eq_iff_iff]
        simp only [apart, Bool.and_eq_true, bne_iff_ne, ne_eq]
        have q1 := q f.1 (.inl rfl) e.1 (.inl rfl)
        have q2 := q f.1 (.inl rfl) e.2 (.inr rfl)
        have q3 := q f.2 (.inr rfl) e.1 (.inl rfl)
        have q4 := q f.2 (.inr rfl) e.2 (.inr rfl)
        constructor
        · rintro ⟨⟨⟨a, b⟩, c⟩, d⟩
          exact ⟨⟨⟨fun h => a (by rw [h]), fun h => b (by rw [h])⟩, fun h => c (by rw [h])⟩, fun h => d (by rw [h])⟩
        · rintro ⟨⟨⟨a, b⟩, c⟩, d⟩
          exact ⟨⟨⟨fun h => a (q1 h), fun h => b (q2 h)⟩, fun h => c (q3 h)⟩, fun h => d (q4 h)⟩
      rw [o, cnt_map g n (off E e) (by have := off_len E e; simp at h; omega) (fun a ha b hb => inj a (List.mem_cons_of_mem _ (List.mem_filter.mp ha).1) b (List.mem_cons_of_mem _ (List.mem_filter.mp hb).1))]
theorem mp_iso {V : List α} {E : List (Edge α)} (h : Valid V E) {v : α} (hv : v ∉ V) (x : K) : ev (tz (mp (V.length + 1) E)) x = x * ev (tz (mp V.length E)) x := by
  have hV : Valid (v :: V) E := ⟨List.nodup_cons.mpr ⟨hv, h.nd⟩, fun e he => by
    have := h.mem e he
    exact ⟨List.mem_cons_of_mem _ this.1, List.mem_cons_of_mem _ this.2.1, this.2.2⟩⟩
  have k := mp_vertex E (v :: V) V.length v hV rfl List.mem_cons_self x
  have o1 : offv E v = E := by
    unfold offv
    rw [List.filter_eq_self]
    intro e he
    have := h.mem e he
    simp only [Bool.and_eq_true, bne_iff_ne]
    exact ⟨fun q => hv (by rw [← q]; exact this.1), fun q => hv (by rw [← q]; exact this.2.1)⟩
  have o2 : inc E v = [] := by
    unfold inc
    rw [List.filter_eq_nil_iff]
    intro e he
    have := h.mem e he
    simp only [Bool.or_eq_true, beq_iff_eq]
    rintro (q | q)
    · exact hv (by rw [← q]; exact this.1)
    · exact hv (by rw [← q]; exact this.2.1)
  rw [o1, o2] at k
  rw [k]; simp only [sm]; grind
theorem Valid.app {V W : List α} {E F : List (Edge α)} (h : Valid V E) (g : Valid W F) (d : ∀ a, a ∈ V → a ∉ W) : Valid (V ++ W) (E ++ F) := by
  refine ⟨List.nodup_append.mpr ⟨h.nd, g.nd, fun a ha b hb e => d a ha (by rw [e]; exact hb)⟩, fun e he => ?_⟩
  rcases List.mem_append.mp he with q | q
  · have := h.mem e q
    exact ⟨List.mem_append_left _ this.1, List.mem_append_left _ this.2.1, this.2.2⟩
  · have := g.mem e q
    exact ⟨List.mem_append_right _ this.1, List.mem_append_right _ this.2.1, this.2.2⟩
theorem mp_zero_nil (x : K) : ev (tz (mp 0 ([] : List (Edge α)))) x = 1 := by
  show ic 1 + x * 0 = 1
  rw [ic_one]; grind
theorem mp_prod_nil {W : List α} {F : List (Edge α)} (g : Valid W F) (x : K) : ∀ V : List α, V.Nodup → (∀ a, a ∈ V → a ∉ W) → ev (tz (mp (V.length + W.length) F)) x = ev (tz (mp V.length ([] : List (Edge α)))) x * ev (tz (mp W.length F)) x
  | [], _, _ => by
    rw [List.length_nil, Nat.zero_add, mp_zero_nil]; grind
  | v :: V, nd, d => by
    have nd' := List.nodup_cons.mp nd
    have ih := mp_prod_nil g x V nd'.2 (fun a ha => d a (List.mem_cons_of_mem _ ha))
    have hV : Valid (V ++ W) F := Valid.app (E := []) ⟨nd'.2, fun e he => by simp at he⟩ g (fun a ha => d a (List.mem_cons_of_mem _ ha))
    have k := mp_iso hV (v := v) (fun q => by
      rcases List.mem_append.mp q with q | q
      · exact nd'.1 q
      · exact d v List.mem_cons_self q) x
    rw [List.length_append] at k
    rw [List.length_cons, show V.length + 1 + W.length = V.length + W.length + 1 by omega, k, ih, mp_nil]
    grind
theorem mp_prod : ∀ (n : Nat) (E : List (Edge α)) (V W : List α) (F : List (Edge α)), E.length ≤ n → Valid V E → Valid W F → (∀ a, a ∈ V → a ∉ W) → ∀ x,
    ev (tz (mp (V.length + W.length) (E ++ F))) x = ev (tz (mp V.length E)) x * ev (tz (mp W.length F)) x
  | _, [], V, W, F, _, h, g, d, x => by
    rw [List.nil_append]; exact mp_prod_nil g x V h.nd d
  | 0, e :: E, V, W, F, hn, _, _, _, _ => by simp at hn
  | n + 1, e :: E, V, W, F, hn, h, g, d, x => by
    have hE : Valid V E := h.sub fun f hf => List.mem_cons_of_mem _ hf
    obtain ⟨m1, m2, m3⟩ := h.mem e List.mem_cons_self
    obtain ⟨k, hk⟩ := len_pos m1
    have l1 := len_erase m1 hk
    have m2' : e.2 ∈ V.erase e.1 := (List.mem_erase_of_ne (fun h => m3 h.symm)).mpr m2
    obtain ⟨k2, hk2⟩ := len_pos m2'
    have l2 := len_erase m2' hk2
    obtain rfl : k = k2 + 1 := by omega
    have i1 := mp_prod n E V W F (by simp at hn; omega) hE g d x
    have i2 := mp_prod n (off E e) _ W F (by have := off_len E e; simp at hn; omega) (hE.off e) g (fun a ha => d a (List.erase_subset (List.erase_subset ha))) x
    rw [l2] at i2
    have o : off (E ++ F) e = off E e ++ F := by
      unfold off
      rw [List.filter_append]
      congr 1
      rw [List.filter_eq_self]
      intro f hf
      have := g.mem f hf
      simp only [apart, Bool.and_eq_true, bne_iff_ne]
      exact ⟨⟨⟨fun q => d _ m1 (by rw [← q]; exact this.1), fun q => d _ m2 (by rw [← q]; exact this.1)⟩, fun q => d _ m1 (by rw [← q]; exact this.2.1)⟩, fun q => d _ m2 (by rw [← q]; exact this.2.1)⟩
    rw [hk] at i1 ⊢
    rw [List.cons_append, show k2 + 1 + 1 + W.length = (k2 + W.length) + 2 by omega, mp_edge, mp_edge, o]
    rw [show k2 + 1 + 1 + W.length = (k2 + W.length) + 2 by omega] at i1
    rw [i1, i2]
    show _ = _
    rw [show k2 + 1 + 1 = k2 + 2 by omega]
    clear i1 i2 o
    grind
/-- a branch: its root, its vertices, its edges -/
structure Br (α : Type) where
  c : α
  V : List α
  E : List (Edge α)
def bV (ps : List (Br α)) : List α := ps.flatMap (·.V)
def bE (ps : List (Br α)) : List (Edge α) := ps.flatMap (·.E)
def prA (x : K) : List (Br α) → K
  | [] => 1
  | p :: ps => ev (tz (mp p.V.length p.E)) x * prA x ps
def sumB (x : K) : List (Br α) → K
  | [] => 0
  | p :: ps => ev (tz (mp (p.V.length - 1) (offv p.E p.c))) x * prA x ps + ev (tz (mp p.V.length p.E)) x * sumB x ps
structure Good (ps : List (Br α)) : Prop where
  ok : ∀ p, p ∈ ps → Valid p.V p.E ∧ p.c ∈ p.V
  nd : (bV ps).Nodup
theorem Good.tail {p : Br α} {ps : List (Br α)} (h : Good (p :: ps)) : Good ps ∧ ∀ a, a ∈ p.V → a ∉ bV ps := by
  have nd : (p.V ++ bV ps).Nodup := h.nd
  rw [List.nodup_append] at nd
  exact ⟨⟨fun q hq => h.ok q (List.mem_cons_of_mem _ hq), nd.2.1⟩, fun a ha hb => nd.2.2 a ha a hb rfl⟩
theorem Good.valid : ∀ {ps : List (Br α)}, Good ps → Valid (bV ps) (bE ps)
  | [], _ => ⟨List.nodup_nil, fun e he => by simp [bE] at he⟩
  | p :: ps, h => Valid.app (h.ok p List.mem_cons_self).1 h.tail.1.valid h.tail.2
theorem mp_all (x : K) : ∀ {ps : List (Br α)}, Good ps → ev (tz (mp (bV ps).length (bE ps))) x = prA x ps
  | [], _ => mp_zero_nil x
  | p :: ps, h => by
    have t := h.tail
    show ev (tz (mp (p.V ++ bV ps).length (p.E ++ bE ps))) x = ev (tz (mp p.V.length p.E)) x * prA x ps
    rw [List.length_append, mp_prod _ p.E p.V (bV ps) (bE ps) (Nat.le_refl _) (h.ok p List.mem_cons_self).1 t.1.valid t.2, mp_all x t.1]
theorem prA_app (x : K) (l m : List (Br α)) : prA x (l ++ m) = prA x l * prA x m := by
  induction l with
  | nil => simp only [List.nil_append, prA]; grind
  | cons p l ih => simp only [List.cons_append, prA, ih]; grind
theorem bE_app (l m : List (Br α)) : bE (l ++ m) = bE l ++ bE m := List.flatMap_append
theorem bV_app (l m : List (Br α)) : bV (l ++ m) = bV l ++ bV m := List.flatMap_append
theorem offv_app (E F : List (Edge α)) (v : α) : offv (E ++ F) v = offv E v ++ offv F v := List.filter_append _ _
theorem offv_id {V : List α} {E : List (Edge α)} (h : Valid V E) {v : α} (hv : v ∉ V) : offv E v = E := by
  unfold offv
  rw [List.filter_eq_self]
  intro e he
  have := h.mem e he
  simp only [Bool.and_eq_true, bne_iff_ne]
  exact ⟨fun q => hv (by rw [← q]; exact this.1), fun q => hv (by rw [← q]; exact this.2.1)⟩
/-- all branches, one of them without its root -/
theorem mp_one (x : K) {l1 l2 : List (Br α)} {p : Br α} (h : Good (l1 ++ p :: l2)) : ev (tz (mp ((bV (l1 ++ p :: l2)).length - 1) (offv (bE (l1 ++ p :: l2)) p.c))) x = prA x l1 * (ev (tz (mp (p.V.length - 1) (offv p.E p.c))) x * prA x l2) := by
  have hp := h.ok p (by simp)
  have nd : (bV l1 ++ (p.V ++ bV l2)).Nodup := by have := h.nd; rw [bV_app] at this; exact this
  rw [List.nodup_append] at nd
  obtain ⟨nd1, nd2, nd3⟩ := nd
  rw [List.nodup_append] at nd2
  obtain ⟨nd4, nd5, nd6⟩ := nd2
  have g1 : Good l1 := ⟨fun q hq => h.ok q (List.mem_append_left _ hq), nd1⟩
  have g2 : Good l2 := ⟨fun q hq => h.ok q (List.mem_append_right _ (List.mem_cons_of_mem _ hq)), nd5⟩
  have n1 : p.c ∉ bV l1 := fun q => nd3 _ q _ (List.mem_append_left _ hp.2) rfl
  have n2 : p.c ∉ bV l2 := fun q => nd6 _ hp.2 _ q rfl
  have e : offv (bE (l1 ++ p :: l2)) p.c = bE l1 ++ (offv p.E p.c ++ bE l2) := by
    rw [bE_app]
    show offv (bE l1 ++ (p.E ++ bE l2)) p.c = _
    rw [offv_app, offv_app, offv_id g1.valid n1, offv_id g2.valid n2]
  obtain ⟨k, hk⟩ := len_pos hp.2
  have lk := len_erase hp.2 hk
  have v2 : Valid (p.V.erase p.c ++ bV l2) (offv p.E p.c ++ bE l2) := (hp.1.offv p.c).app g2.valid (fun a ha hb => nd6 _ (List.erase_subset ha) _ hb rfl)
  have ln : (bV (l1 ++ p :: l2)).length - 1 = (bV l1).length + (p.V.erase p.c ++ bV l2).length := by
    rw [bV_app]
    show (bV l1 ++ (p.V ++ bV l2)).length - 1 = _
    simp only [List.length_append]
    omega
  rw [e, ln, mp_prod _ _ (bV l1) _ _ (Nat.le_refl _) g1.valid v2 (fun a ha hb => by
    rcases List.mem_append.mp hb with q | q
    · exact nd3 _ ha _ (List.mem_append_left _ (List.erase_subset q)) rfl
    · exact nd3 _ ha _ (List.mem_append_right _ q) rfl), mp_all x g1, List.length_append, mp_prod _ _ _ (bV l2) _ (Nat.le_refl _) (hp.1.offv p.c) g2.valid (fun a ha hb => nd6 _ (List.erase_subset ha) _ hb rfl), mp_all x g2, lk, hk]
  rfl
theorem sum_split (x : K) {ps : List (Br α)} (h : Good ps) : ∀ (l2 l1 : List (Br α)), ps = l1 ++ l2 → sm l2 (fun p => ev (tz (mp ((bV ps).length - 1) (offv (bE ps) p.c))) x) = prA x l1 * sumB x l2
  | [], l1, _ => by simp only [sm, sumB]; grind
  | p :: l2, l1, e => by
    have ih := sum_split x h l2 (l1 ++ [p]) (by rw [e]; simp)
    subst e
    simp only [sm, sumB]
    rw [ih, mp_one x h, prA_app]
    simp only [prA]; grind
/-- a tree: its root and its branches -/
def tE (r : α) (ps : List (Br α)) : List (Edge α) := ps.flatMap fun p => (r, p.c) :: p.E
theorem tree_valid {r : α} : ∀ {ps : List (Br α)}, Good ps → r ∉ bV ps → Valid (r :: bV ps) (tE r ps) := by
  intro ps h hr
  refine ⟨List.nodup_cons.mpr ⟨hr, h.nd⟩, fun e he => ?_⟩
  obtain ⟨p, hp, hq⟩ := List.mem_flatMap.mp he
  have o := h.ok p hp
  have inV : ∀ a, a ∈ p.V → a ∈ bV ps := fun a ha => List.mem_flatMap.mpr ⟨p, hp, ha⟩
  rcases List.mem_cons.mp hq with q | q
  · rw [q]
    exact ⟨List.mem_cons_self, List.mem_cons_of_mem _ (inV _ o.2), fun z => hr (inV _ (by
      have z' : r = p.c := z
      rw [z']; exact o.2))⟩
  · have := o.1.mem e q
    exact ⟨List.mem_cons_of_mem _ (inV _ this.1), List.mem_cons_of_mem _ (inV _ this.2.1), this.2.2⟩
theorem tree_off {r : α} : ∀ {ps : List (Br α)}, Good ps → r ∉ bV ps → offv (tE r ps) r = bE ps ∧ inc (tE r ps) r = ps.map fun p => (r, p.c)
  | [], _, _ => ⟨rfl, rfl⟩
  | p :: ps, h, hr => by
    have hr' : r ∉ p.V ∧ r ∉ bV ps := by
      have : r ∉ p.V ++ bV ps := hr
      simpa using this
    obtain ⟨i1, i2⟩ := tree_off h.tail.1 hr'.2
    have o := (h.ok p List.mem_cons_self).1
    constructor
    · show offv (((r, p.c) :: p.E) ++ tE r ps) r = p.E ++ bE ps
      rw [offv_app, i1]
      congr 1
      show offv ((r, p.c) :: p.E) r = p.E
      have : offv ((r, p.c) :: p.E) r = offv p.E r := by simp [offv]
      rw [this, offv_id o hr'.1]
    · show inc (((r, p.c) :: p.E) ++ tE r ps) r = (r, p.c) :: ps.map _
      unfold inc at *
      rw [List.filter_append, i2]
      have : ((r, p.c) :: p.E).filter (fun f => f.1 == r || f.2 == r) = [(r, p.c)] := by
        rw [List.filter_cons, if_pos (by simp)]
        congr 1
        rw [List.filter_eq_nil_iff]
        intro e he
        have m := o.mem e he
        simp only [Bool.or_eq_true, beq_iff_eq]
        rintro (q | q)
        · exact hr'.1 (by rw [← q]; exact m.1)
        · exact hr'.1 (by rw [← q]; exact m.2.1)
      rw [this]; rfl
theorem mp_tree (x : K) {r : α} {ps : List (Br α)} (h : Good ps) (hr : r ∉ bV ps) : ev (tz (mp ((bV ps).length + 1) (tE r ps))) x = x * prA x ps - sumB x ps ∧ ev (tz (mp (bV ps).length (offv (tE r ps) r))) x = prA x ps := by
  obtain ⟨o1, o2⟩ := tree_off h hr
  constructor
  · rw [mp_vertex (tE r ps) (r :: bV ps) (bV ps).length r (tree_valid h hr) rfl List.mem_cons_self x, o1, o2, mp_all x h, sm_map]
    rw [sm_congr (g := fun p => ev (tz (mp ((bV ps).length - 1) (offv (bE ps) p.c))) x) (fun p hp => by rw [off_offv, o1]), sum_split x h ps [] rfl]
    simp only [prA]; grind
  · rw [o1, mp_all x h]
end
end MG

-- part NC
namespace MG
open K
open Kqg1 (Poly trim coefficient)
/-! ## Path trees -/
abbrev Path := List Nat
/-- the paths that continue a path -/
def ch (g : Kqg4.Graph) (q : Path) : List Path := ((Kqg4.neighbors g (q.getLast?.getD 0)).filter fun v => !(q.contains v)).map fun v => q ++ [v]
theorem pathsFrom_succ (g : Kqg4.Graph) (f : Nat) (q : Path) : Kqg4.pathsFrom g (f + 1) q = q :: (ch g q).flatMap (Kqg4.pathsFrom g f) := by
  show q :: List.flatMap _ _ = _
  unfold ch
  rw [List.flatMap_map]
/-- the edges of the tree below a path -/
def pe (g : Kqg4.Graph) : Nat → Path → List (Edge Path)
  | 0, _ => []
  | f + 1, q => (ch g q).flatMap fun c => (q, c) :: pe g f c
structure POk (n : Nat) (q : Path) : Prop where
  ne : q ≠ []
  nd : q.Nodup
  lt : ∀ v, v ∈ q → v < n
theorem nodup_le : ∀ (n : Nat) (q : List Nat), q.Nodup → (∀ v, v ∈ q → v < n) → q.length ≤ n
  | 0, q, _, h => by
    cases q with
    | nil => simp
    | cons a q => have := h a List.mem_cons_self; omega
  | n + 1, q, nd, h => by
    by_cases c : n ∈ q
    · have := nodup_le n (q.erase n) (nd.erase n) (fun v hv => by
        have h1 := h v (List.erase_subset hv)
        have h2 := (List.Nodup.mem_erase_iff nd).mp hv
        omega)
      rw [List.length_erase_of_mem c] at this
      omega
    · have := nodup_le n q nd (fun v hv => by
        have h1 := h v hv
        have : v ≠ n := fun e => c (by rw [← e]; exact hv)
        omega)
      omega
theorem ch_ok {g : Kqg4.Graph} {q : Path} (h : POk g.vertexCount q) : ∀ c, c ∈ ch g q → POk g.vertexCount c ∧ c.length = q.length + 1 ∧ ∃ v, c = q ++ [v] := fun c hc => by
  obtain ⟨v, hv, rfl⟩ := List.mem_map.mp hc
  obtain ⟨h1, h2⟩ := List.mem_filter.mp hv
  have h3 := List.mem_range.mp (List.mem_filter.mp h1).1
  have h4 : v ∉ q := by simpa using h2
  refine ⟨⟨by simp, ?_, fun w hw => ?_⟩, by simp, v, rfl⟩
  · rw [List.nodup_append]
    exact ⟨h.nd, by simp, fun a ha b hb e => h4 (by rw [← List.mem_singleton.mp hb, ← e]; exact ha)⟩
  · rcases List.mem_append.mp hw with w1 | w1
    · exact h.lt w w1
    · rw [List.mem_singleton.mp w1]; exact h3
theorem ch_nodup (g : Kqg4.Graph) (q : Path) : (ch g q).Nodup := by
  unfold ch
  rw [List.nodup_iff_pairwise_ne, List.pairwise_map]
  have : ((Kqg4.neighbors g (q.getLast?.getD 0)).filter fun v => !(q.contains v)).Nodup := by
    unfold Kqg4.neighbors
    exact (List.nodup_range.filter _).filter _
  exact List.Pairwise.imp (fun {a b} hab e => hab (by simpa using e)) this
theorem pathsFrom_prefix (g : Kqg4.Graph) : ∀ (f : Nat) (q p : Path), p ∈ Kqg4.pathsFrom g f q → ∃ t, p = q ++ t
  | 0, q, p, h => ⟨[], by rw [List.mem_singleton.mp h]; simp⟩
  | f + 1, q, p, h => by
    rw [pathsFrom_succ] at h
    rcases List.mem_cons.mp h with e | e
    · exact ⟨[], by rw [e]; simp⟩
    · obtain ⟨c, hc, hp⟩ := List.mem_flatMap.mp e
      obtain ⟨t, ht⟩ := pathsFrom_prefix g f c p hp
      obtain ⟨v, _, rfl⟩ := List.mem_map.mp hc
      exact ⟨v :: t, by rw [ht]; simp⟩
theorem pathsFrom_self (g : Kqg4.Graph) (f : Nat) (q : Path) : q ∈ Kqg4.pathsFrom g f q := by
  cases f with
  | zero => exact List.mem_singleton.mpr rfl
  | succ f => rw [pathsFrom_succ]; exact List.mem_cons_self
def brs (g : Kqg4.Graph) (f : Nat) (q : Path) : List (Br Path) := (ch g q).map fun c => ⟨c, Kqg4.pathsFrom g f c, pe g f c⟩
theorem brs_V (g : Kqg4.Graph) (f : Nat) (q : Path) : bV (brs g f q) = (ch g q).flatMap (Kqg4.pathsFrom g f) := by
  unfold bV brs; rw [List.flatMap_map]
theorem brs_tE (g : Kqg4.Graph) (f : Nat) (q : Path) : tE q (brs g f q) = pe g (f + 1) q := by
  unfold tE brs; rw [List.flatMap_map]; rfl
theorem nodup_flat {β γ : Type} (h : β → List γ) : ∀ l : List β, l.Nodup → (∀ a, a ∈ l → (h a).Nodup) → (∀ a, a ∈ l → ∀ b, b ∈ l → a ≠ b → ∀ x, x ∈ h a → x ∉ h b) → (l.flatMap h).Nodup
  | [], _, _, _ => by simp
  | a :: l, nd, h1, h2 => by
    have nd' := List.nodup_cons.mp nd
    rw [List.flatMap_cons, List.nodup_append]
    refine ⟨h1 a List.mem_cons_self, nodup_flat h l nd'.2 (fun b hb => h1 b (List.mem_cons_of_mem _ hb)) (fun b hb c hc => h2 b (List.mem_cons_of_mem _ hb) c (List.mem_cons_of_mem _ hc)), fun x hx y hy e => ?_⟩
    obtain ⟨b, hb, hyb⟩ := List.mem_flatMap.mp hy
    exact h2 a List.mem_cons_self b (List.mem_cons_of_mem _ hb) (fun q => nd'.1 (by rw [q]; exact hb)) x hx (by rw [e]; exact hyb)
/-- the tree below a path is a tree -/
theorem pt_good (g : Kqg4.Graph) : ∀ (f : Nat) (q : Path), POk g.vertexCount q → q.length + f = g.vertexCount + 1 → Valid (Kqg4.pathsFrom g f q) (pe g f q) ∧ (∀ f', f = f' + 1 → Good (brs g f' q) ∧ q ∉ bV (brs g f' q))
  | 0, q, h, hl => by
    have := nodup_le _ q h.nd h.lt
    omega
  | f + 1, q, h, hl => by
    have G : Good (brs g f q) := by
      refine ⟨fun p hp => ?_, ?_⟩
      · obtain ⟨c, hc, rfl⟩ := List.mem_map.mp hp
        obtain ⟨o, l, _⟩ := ch_ok h c hc
        exact ⟨(pt_good g f c o (by omega)).1, pathsFrom_self g f c⟩
      · rw [brs_V]
        refine nodup_flat _ _ (ch_nodup g q) (fun c hc => ?_) (fun c hc d hd ne p hp hq => ?_)
        · obtain ⟨o, l, _⟩ := ch_ok h c hc
          exact (pt_good g f c o (by omega)).1.nd
        · obtain ⟨t, ht⟩ := pathsFrom_prefix g f c p hp
          obtain ⟨u, hu⟩ := pathsFrom_prefix g f d p hq
          obtain ⟨_, _, v, rfl⟩ := ch_ok h c hc
          obtain ⟨_, _, w, rfl⟩ := ch_ok h d hd
          rw [ht] at hu
          simp at hu
          exact ne (by rw [hu.1])
    have nr : q ∉ bV (brs g f q) := fun m => by
      rw [brs_V] at m
      obtain ⟨c, hc, hp⟩ := List.mem_flatMap.mp m
      obtain ⟨t, ht⟩ := pathsFrom_prefix g f c q hp
      obtain ⟨_, l, _⟩ := ch_ok h c hc
      have := congrArg List.length ht
      rw [List.length_append] at this
      omega
    refine ⟨?_, fun f' e => ?_⟩
    · have := tree_valid G nr
      rw [brs_tE, brs_V] at this
      rw [pathsFrom_succ]
      exact this
    · have : f' = f := by omega
      subst this
      exact ⟨G, nr⟩
/-! ### the specification's recursion -/
def pm {β : Type} : List β → (β → K) → K
  | [], _ => 1
  | a :: l, h => h a * pm l h
theorem pm_map {β γ : Type} (l : List β) (k : β → γ) (h : γ → K) : pm (l.map k) h = pm l (fun a => h (k a)) := by
  induction l with
  | nil => rfl
  | cons a l ih => simp only [pm, List.map_cons, ih]
theorem pm_congr {β : Type} : ∀ {l : List β} {h k : β → K}, (∀ a, a ∈ l → h a = k a) → pm l h = pm l k
  | [], _, _, _ => rfl
  | a :: l, h, k, e => by
    simp only [pm]
    rw [e a List.mem_cons_self, pm_congr (fun b hb => e b (List.mem_cons_of_mem _ hb))]
theorem tk_foldl_mul {β : Type} (h : β → Poly) (x : K) : ∀ (l : List β) (q : Poly), ev (tk (l.foldl (fun q j => Kqg1.multiply q (h j)) q)) x = ev (tk q) x * pm l (fun j => ev (tk (h j)) x)
  | [], q => by simp only [List.foldl_nil, pm]; grind
  | a :: l, q => by
    simp only [List.foldl_cons, pm]
    rw [tk_foldl_mul h x l, tk_mul]; grind
theorem tk_foldl_add {β : Type} (h : β → Poly) (x : K) : ∀ (l : List β) (q : Poly), ev (tk (l.foldl (fun q j => Kqg1.add q (h j)) q)) x = ev (tk q) x + sm l (fun j => ev (tk (h j)) x)
  | [], q => by simp only [List.foldl_nil, sm]; grind
  | a :: l, q => by
    simp only [List.foldl_cons, sm]
    rw [tk_foldl_add h x l, tk_add]; grind
theorem pm_range_succ (n : Nat) (h : Nat → K) : pm (List.range (n + 1)) h = h 0 * pm (List.range n) (fun j => h (j + 1)) := by
  rw [List.range_succ_eq_map]
  simp only [pm, pm_map]
theorem pm_all {β : Type} (d : β) (k : β → K) : ∀ l : List β, pm (List.range l.length) (fun j => k (l.getD j d)) = pm l k
  | [] => rfl
  | a :: l => by
    rw [List.length_cons, pm_range_succ]
    simp only [List.getD_cons_zero, List.getD_cons_succ, pm]
    rw [pm_all d k l]
/-- one at a time taken the other way -/
def oneB (a b : Poly × Poly → K) : List (Poly × Poly) → K
  | [] => 0
  | p :: l => b p * pm l a + a p * oneB a b l
theorem oneB_range (a b : Poly × Poly → K) (d : Poly × Poly) : ∀ l : List (Poly × Poly), sm (List.range l.length) (fun i => pm (List.range l.length) (fun j => if i = j then b (l.getD j d) else a (l.getD j d))) = oneB a b l
  | [] => rfl
  | p :: l => by
    have ih := oneB_range a b d l
    rw [List.length_cons, sm_range_succ]
    simp only [oneB]
    congr 1
    · rw [pm_range_succ]
      simp only [List.getD_cons_zero, List.getD_cons_succ, if_true]
      rw [← pm_all d a l]
      have : pm (List.range l.length) (fun j => if 0 = j + 1 then b (l.getD j d) else a (l.getD j d)) = pm (List.range l.length) (fun j => a (l.getD j d)) := pm_congr fun j _ => by rw [if_neg (by omega)]
      rw [this]
    · rw [sm_congr (g := fun i => a p * pm (List.range l.length) (fun j => if i = j then b (l.getD j d) else a (l.getD j d))) (fun i _ => by
        rw [pm_range_succ]
        simp only [List.getD_cons_zero, List.getD_cons_succ]
        rw [if_neg (by omega)]
        congr 1
        exact pm_congr fun j _ => by
          by_cases e : i = j
          · rw [if_pos e, if_pos (by omega)]
          · rw [if_neg e, if_neg (by omega)]), sm_mul, ih]
theorem ptp_succ (g : Kqg4.Graph) (f : Nat) (q : Path) (x : K) :
    ev (tk (Kqg4.pathTreePolynomials g (f + 1) q).2) x = pm ((ch g q).map (Kqg4.pathTreePolynomials g f)) (fun p => ev (tk p.1) x) ∧
    ev (tk (Kqg4.pathTreePolynomials g (f + 1) q).1) x = x * pm ((ch g q).map (Kqg4.pathTreePolynomials g f)) (fun p => ev (tk p.1) x) - oneB (fun p => ev (tk p.1) x) (fun p => ev (tk p.2) x) ((ch g q).map (Kqg4.pathTreePolynomials g f)) := by
  have hc : ((Kqg4.neighbors g (q.getLast?.getD 0)).filter fun v => !(q.contains v)).map (fun v => Kqg4.pathTreePolynomials g f (q ++ [v])) = (ch g q).map (Kqg4.pathTreePolynomials g f) := by
    unfold ch; rw [List.map_map]; rfl
  have e1 : ev (tk [1]) x = 1 := by show ofQ 1 + x * 0 = 1; rw [ofQ1]; grind
  have e2 : ev (tk [0, 1]) x = x := by show ofQ 0 + x * (ofQ 1 + x * 0) = x; rw [ofQ0, ofQ1]; grind
  rw [Kqg4.pathTreePolynomials]
  dsimp only
  rw [hc]
  clear hc
  generalize (ch g q).map (Kqg4.pathTreePolynomials g f) = l
  constructor
  · rw [tk_foldl_mul, e1]; grind
  · rw [tk_add, tk_scale, tk_mul, tk_foldl_mul, e1, e2, tk_foldl_add]
    rw [sm_congr (g := fun i => pm (List.range l.length) (fun j => if i = j then ev (tk (l.getD j ([], [])).2) x else ev (tk (l.getD j ([], [])).1) x)) (fun i _ => by
      rw [tk_foldl_mul, e1]
      have : ∀ z : K, 1 * z = z := fun z => by grind
      rw [this]
      exact pm_congr fun j _ => by split <;> rfl)]
    rw [oneB_range (fun p => ev (tk p.1) x) (fun p => ev (tk p.2) x) ([], []) l, ev_tk_nil, show ofQ (-1) = (-1 : K) from rfl]
    grind
theorem oneB_map {β : Type} (a b : Poly × Poly → K) (k : β → Poly × Poly) : ∀ l : List β, oneB a b (l.map k) = match l with
    | [] => 0
    | p :: l => b (k p) * pm l (fun p => a (k p)) + a (k p) * oneB a b (l.map k)
  | [] => rfl
  | p :: l => by simp only [List.map_cons, oneB, pm_map]
/-- the recursion tells the tree's matching polynomial -/
theorem ptp_is (g : Kqg4.Graph) (x : K) : ∀ (f : Nat) (q : Path), POk g.vertexCount q → q.length + f = g.vertexCount + 1 →
    ev (tk (Kqg4.pathTreePolynomials g f q).1) x = ev (tz (mp (Kqg4.pathsFrom g f q).length (pe g f q))) x ∧
    ev (tk (Kqg4.pathTreePolynomials g f q).2) x = ev (tz (mp ((Kqg4.pathsFrom g f q).length - 1) (offv (pe g f q) q))) x
  | 0, q, h, hl => by
    have := nodup_le _ q h.nd h.lt
    omega
  | f + 1, q, h, hl => by
    obtain ⟨_, gd⟩ := pt_good g (f + 1) q h hl
    obtain ⟨G, nr⟩ := gd f rfl
    obtain ⟨t1, t2⟩ := mp_tree x G nr
    rw [brs_tE, brs_V] at t1 t2
    have ih : ∀ c, c ∈ ch g q → ev (tk (Kqg4.pathTreePolynomials g f c).1) x = ev (tz (mp (Kqg4.pathsFrom g f c).length (pe g f c))) x ∧ ev (tk (Kqg4.pathTreePolynomials g f c).2) x = ev (tz (mp ((Kqg4.pathsFrom g f c).length - 1) (offv (pe g f c) c))) x := fun c hc => by
      obtain ⟨o, l, _⟩ := ch_ok h c hc
      exact ptp_is g x f c o (by omega)
    have pA : ∀ l : List Path, (∀ c, c ∈ l → c ∈ ch g q) → pm (l.map (Kqg4.pathTreePolynomials g f)) (fun p => ev (tk p.1) x) = prA x (l.map fun c => ⟨c, Kqg4.pathsFrom g f c, pe g f c⟩) := by
      intro l
      induction l with
      | nil => intro _; rfl
      | cons c l ih2 =>
        intro hl
        simp only [List.map_cons, pm, prA]
        rw [(ih c (hl c List.mem_cons_self)).1, ih2 fun d hd => hl d (List.mem_cons_of_mem _ hd)]
    have sB : ∀ l : List Path, (∀ c, c ∈ l → c ∈ ch g q) → oneB (fun p => ev (tk p.1) x) (fun p => ev (tk p.2) x) (l.map (Kqg4.pathTreePolynomials g f)) = sumB x (l.map fun c => ⟨c, Kqg4.pathsFrom g f c, pe g f c⟩) := by
      intro l
      induction l with
      | nil => intro _; rfl
      | cons c l ih2 =>
        intro hl
        have i := ih c (hl c List.mem_cons_self)
        simp only [List.map_cons, oneB, sumB]
        rw [pA l fun d hd => hl d (List.mem_cons_of_mem _ hd), ih2 fun d hd => hl d (List.mem_cons_of_mem _ hd), i.1, i.2]
    obtain ⟨p2, p1⟩ := ptp_succ g f q x
    rw [pathsFrom_succ, List.length_cons]
    constructor
    · rw [p1, pA _ (fun c hc => hc), sB _ (fun c hc => hc)]
      exact t1.symm
    · rw [p2, pA _ (fun c hc => hc)]
      exact t2.symm
end MG

-- part ND
namespace MG
open K
/-! ## The program's chain -/
def lst (l : List Int) : Int := l.getD (l.length - 1) 0
def redI (l q : List Int) : List Int := (List.range l.length).map fun i => l.getD i 0 * lst q - lst l * (if i < l.length - q.length then 0 else q.getD (i - (l.length - q.length)) 0)
structure Trm (l t : List Int) : Prop where
  app : ∃ j, l = t ++ List.replicate j 0
  top : t = [] ∨ lst t ≠ 0
inductive Rdc (q : List Int) : List Int → List Int → Prop
  | stop {l : List Int} : l.length < q.length → Rdc q l l
  | step {l t r : List Int} : q.length ≤ l.length → Trm (redI l q) t → Rdc q t r → Rdc q l r
theorem Trm.ev {l t : List Int} (h : Trm l t) (x : K) : ev (tz t) x = ev (tz l) x := by
  obtain ⟨j, rfl⟩ := h.app
  refine ev_of_cf (fun i => ?_) x
  rw [cf_tz, cf_tz]
  congr 1
  rw [List.getD_eq_getElem?_getD, List.getD_eq_getElem?_getD, List.getElem?_append]
  by_cases c : i < t.length
  · rw [if_pos c]
  · rw [if_neg c, List.getElem?_eq_none (by omega), List.getElem?_replicate]
    by_cases d : i - t.length < j
    · rw [if_pos d]; rfl
    · rw [if_neg d]
theorem Trm.len {l t : List Int} (h : Trm l t) : t.length ≤ l.length := by
  obtain ⟨j, rfl⟩ := h.app
  simp
theorem Trm.lt {l t : List Int} (h : Trm l t) (ne : l ≠ []) (z : lst l = 0) : t.length < l.length := by
  obtain ⟨⟨j, rfl⟩, ht⟩ := h
  cases j with
  | zero =>
    rw [List.replicate_zero, List.append_nil] at *
    rcases ht with h | h
    · exact absurd h ne
    · exact absurd z h
  | succ j => simp
theorem Trm.nil {t : List Int} (h : t = [] ∨ lst t ≠ 0) (z : ∀ x, MG.ev (tz t) x = 0) : t = [] := by
  rcases h with h | h
  · exact h
  · have := cf_ext (p := tz t) (q := []) (fun x => by rw [z x]; rfl) (t.length - 1)
    rw [cf_tz] at this
    exact absurd (ic_eq_zero.mp this) h
theorem getD_red (l q : List Int) (i : Nat) : (redI l q).getD i 0 = if i < l.length then l.getD i 0 * lst q - lst l * (if i < l.length - q.length then 0 else q.getD (i - (l.length - q.length)) 0) else 0 := by
  unfold redI
  rw [List.getD_eq_getElem?_getD, List.getElem?_map]
  by_cases c : i < l.length
  · rw [if_pos c, List.getElem?_range c]; rfl
  · rw [if_neg c, List.getElem?_eq_none (by rw [List.length_range]; omega)]; rfl
theorem red_len (l q : List Int) : (redI l q).length = l.length := by simp [redI]
theorem red_top {l q : List Int} (hq : 0 < q.length) (h : q.length ≤ l.length) : lst (redI l q) = 0 := by
  unfold lst
  rw [red_len, getD_red, if_pos (by omega), if_neg (by omega)]
  have : l.length - 1 - (l.length - q.length) = q.length - 1 := by omega
  rw [this]
  unfold lst
  rw [Int.sub_self]
theorem red_lt {l q t : List Int} (hq : 0 < q.length) (h : q.length ≤ l.length) (ht : Trm (redI l q) t) : t.length < l.length := by
  have := ht.lt (fun z => by have := red_len l q; rw [z] at this; simp at this; omega) (red_top hq h)
  rwa [red_len] at this
/-- a step that takes away x times -/
theorem red_ev1 {l q : List Int} (h : l.length = q.length + 1) (x : K) : MG.ev (tz (redI l q)) x = ic (lst q) * MG.ev (tz l) x - ic (lst l) * (x * MG.ev (tz q) x) := by
  have e : ∀ x, MG.ev (subL (smulL (ic (lst q)) (tz l)) (smulL (ic (lst l)) (0 :: tz q))) x = ic (lst q) * MG.ev (tz l) x - ic (lst l) * (x * MG.ev (tz q) x) := fun x => by
    rw [ev_sub, ev_smul, ev_smul]; simp only [MG.ev]; grind
  rw [← e]
  refine ev_of_cf (fun i => ?_) x
  rw [cf_tz, getD_red, cf_sub, cf_smul, cf_smul, cf_tz]
  have d : l.length - q.length = 1 := by omega
  rw [d]
  cases i with
  | zero =>
    rw [if_pos (by omega), if_pos (by omega), cf_zero, Int.mul_zero, Int.sub_zero, ic_mul]
    grind
  | succ i =>
    rw [cf_succ, cf_tz, if_neg (by omega : ¬ i + 1 < 1), Nat.add_sub_cancel]
    by_cases c : i + 1 < l.length
    · rw [if_pos c, ic_sub, ic_mul, ic_mul]; grind
    · have z1 : l.getD (i + 1) 0 = 0 := by rw [List.getD_eq_getElem?_getD, List.getElem?_eq_none (by omega)]; rfl
      have z2 : q.getD i 0 = 0 := by rw [List.getD_eq_getElem?_getD, List.getElem?_eq_none (by omega)]; rfl
      rw [if_neg c, z1, z2, ic_zero]; grind
theorem red_ev0 {l q : List Int} (h : l.length = q.length) (x : K) : MG.ev (tz (redI l q)) x = ic (lst q) * MG.ev (tz l) x - ic (lst l) * MG.ev (tz q) x := by
  have e : ∀ x, MG.ev (subL (smulL (ic (lst q)) (tz l)) (smulL (ic (lst l)) (tz q))) x = ic (lst q) * MG.ev (tz l) x - ic (lst l) * MG.ev (tz q) x := fun x => by
    rw [ev_sub, ev_smul, ev_smul]
  rw [← e]
  refine ev_of_cf (fun i => ?_) x
  rw [cf_tz, getD_red, cf_sub, cf_smul, cf_smul, cf_tz, cf_tz]
  have d : l.length - q.length = 0 := by omega
  rw [d, if_neg (by omega : ¬ i < 0), Nat.sub_zero]
  by_cases c : i < l.length
  · rw [if_pos c, ic_sub, ic_mul, ic_mul]; grind
  · have z1 : l.getD i 0 = 0 := by rw [List.getD_eq_getElem?_getD, List.getElem?_eq_none (by omega)]; rfl
    have z2 : q.getD i 0 = 0 := by rw [List.getD_eq_getElem?_getD, List.getElem?_eq_none (by omega)]; rfl
    rw [if_neg c, z1, z2, ic_zero]; grind
theorem Rdc.small {q l r : List Int} (h : Rdc q l r) (hl : l.length < q.length) : r = l := by
  cases h with
  | stop _ => rfl
  | step h1 _ _ => omega
/-- the remainder of two of which the second is one shorter -/
theorem Rdc.two {q l r : List Int} (h : Rdc q l r) (hq : 0 < q.length) (hl : l.length = q.length + 1) : (r = [] ∨ lst r ≠ 0) ∧ r.length < q.length ∧
    ∃ (k : Nat) (al be : K), ∀ x, ic (lst q ^ (k + 1)) * MG.ev (tz l) x = (al * x + be) * MG.ev (tz q) x + MG.ev (tz r) x := by
  cases h with
  | stop h => omega
  | step h1 ht hr =>
    rename_i t
    have lt := red_lt hq h1 ht
    have e1 := red_ev1 hl
    by_cases c : t.length < q.length
    · have := hr.small c
      subst this
      refine ⟨ht.top, c, 0, ic (lst l), 0, fun x => ?_⟩
      rw [ht.ev, e1, Int.pow_succ, Int.pow_zero, Int.one_mul]; grind
    · cases hr with
      | stop h => omega
      | step h2 ht2 hr2 =>
        rename_i t2
        have lt2 := red_lt hq h2 ht2
        have e2 := red_ev0 (l := t) (q := q) (by omega)
        have := hr2.small (by omega)
        subst this
        refine ⟨ht2.top, by omega, 1, ic (lst q) * ic (lst l), ic (lst t), fun x => ?_⟩
        rw [ht2.ev, e2, ht.ev, e1, Int.pow_succ, Int.pow_succ, Int.pow_zero, Int.one_mul, ic_mul]; grind
def ngI (l : List Int) : List Int := l.map fun a => -a
theorem ev_ngI : ∀ (l : List Int) (x : K), MG.ev (tz (ngI l)) x = - MG.ev (tz l) x
  | [], x => by
    show (0 : K) = - 0
    grind
  | a :: l, x => by
    have := ev_ngI l x
    show MG.ev (tz (-a :: ngI l)) x = _
    rw [tz_cons, tz_cons]
    simp only [MG.ev, this, ic_neg]; grind
theorem cd_last {m : Nat} {l q : List Int} (h : CD m (tz l) (tz q)) : l.length = m + 2 ∧ q.length = m + 1 ∧ 0 < lst q := by
  have h1 := h.lp
  have h2 := h.lq
  have h3 := h.pq
  rw [len_tz] at h1 h2
  rw [cf_tz] at h3
  refine ⟨h1, h2, ?_⟩
  unfold lst
  rw [h2, Nat.add_sub_cancel]
  exact ic_pos.mp h3
theorem full_step {m : Nat} {l q r : List Int} (h : CD m (tz l) (tz q)) (hr : Rdc q l r) : ngI r = [] ∨ ∃ k, m = k + 1 ∧ CD k (tz q) (tz (ngI r)) := by
  obtain ⟨h1, h2, h3⟩ := cd_last h
  obtain ⟨tp, lr, k, al, be, e⟩ := hr.two (by omega) (by omega)
  have hc : (0 : K) < ic (lst q ^ (k + 1)) := ic_pos.mpr (Int.pow_pos h3)
  rcases h.down (r := tz (ngI r)) (al := al) (be := be) hc (fun x => by rw [e x, ev_ngI]; grind) (by rw [len_tz]; unfold ngI; rw [List.length_map]; omega) with z | z
  · left
    have : r = [] := Trm.nil tp fun x => by
      have := z x
      rw [ev_ngI] at this; grind
    rw [this]; rfl
  · exact .inr z
end MG

-- part NE
namespace MG
open K
def derI (l : List Int) : List Int := (List.range (l.length - 1)).map fun i => ((i + 1 : Nat) : Int) * l.getD (i + 1) 0
theorem derI_len (l : List Int) : (derI l).length = l.length - 1 := by simp [derI]
theorem getD_derI (l : List Int) (i : Nat) : (derI l).getD i 0 = ((i + 1 : Nat) : Int) * l.getD (i + 1) 0 := by
  unfold derI
  rw [List.getD_eq_getElem?_getD, List.getElem?_map]
  by_cases c : i < l.length - 1
  · rw [List.getElem?_range c]; rfl
  · have z : l.getD (i + 1) 0 = 0 := by rw [List.getD_eq_getElem?_getD, List.getElem?_eq_none (by omega)]; rfl
    rw [List.getElem?_eq_none (by rw [List.length_range]; omega), z, Int.mul_zero]; rfl
theorem ic_nat (n : Nat) : ic (n : Int) = ((n : Nat) : K) := by
  induction n with
  | zero => show ic 0 = _; rw [ic_zero]; exact (Lean.Grind.Semiring.natCast_zero).symm
  | succ n ih =>
    have : ((n + 1 : Nat) : Int) = (n : Int) + 1 := by omega
    rw [this, ic_add, ih, ic_one, Lean.Grind.Semiring.natCast_succ]
theorem ev_derI (l : List Int) (x : K) : MG.ev (tz (derI l)) x = MG.ev (dL (tz l)) x :=
  ev_of_cf (fun i => by rw [cf_tz, getD_derI, cf_dL, cf_tz, ic_mul, ic_nat]) x
theorem der_cd {l : List Int} {rs : List K} (h : Sp (tz l) rs) : derI l = [] ∨ ∃ m, CD m (tz l) (tz (derI l)) ∧ l.length = m + 2 := by
  have hl := h.len
  rw [len_tz] at hl
  cases rs with
  | nil =>
    left
    have : (derI l).length = 0 := by rw [derI_len]; simp at hl; omega
    exact List.eq_nil_of_length_eq_zero this
  | cons r rs =>
    right
    rw [List.length_cons] at hl
    have top := h.top
    have e1 : ∀ x, MG.ev (dL (tz l)) x = MG.ev (dL (linL (r :: rs))) x := fun x => dL_congr (fun y => by rw [h.eq, ev_lin]) x
    refine ⟨rs.length, ⟨by rw [len_tz]; omega, by rw [len_tz, derI_len]; omega, ?_, ?_, 1, 1, om (r :: rs), one_pos, one_pos, fun f hf => om_len _ f hf, fun x y => ?_⟩, by omega⟩
    · rw [List.length_cons] at top
      rw [top]; exact one_pos
    · have : cf (tz (derI l)) rs.length = ic ((rs.length + 1 : Nat) : Int) := by
        rw [cf_tz, getD_derI, ic_mul]
        rw [List.length_cons, cf_tz] at top
        rw [top]; grind
      rw [this]
      exact ic_pos.mpr (by omega)
    · rw [ev_derI, ev_derI, e1, e1, h.eq, h.eq]
      have := om_cd (r :: rs) x y
      grind
end MG

-- part NF
namespace MG
open K
theorem scl_rev (d : Int) : ∀ l : List Int, (scl d l).reverse = (List.range l.length).map fun j => l.getD (l.length - 1 - j) 0 * d ^ j
  | [] => rfl
  | c :: l => by
    show (c * d ^ l.length :: scl d l).reverse = _
    rw [List.reverse_cons, scl_rev d l, List.length_cons, List.range_succ, List.map_append]
    congr 1
    · refine List.map_congr_left fun j hj => ?_
      have := List.mem_range.mp hj
      have e : l.length + 1 - 1 - j = (l.length - 1 - j) + 1 := by omega
      rw [e, List.getD_cons_succ]
    · simp
def hor (n : Int) : List Int → Int
  | [] => 0
  | c :: l => hor n l * n + c
theorem sw_one (a c : Int) : sw a [c] = [c] := by simp [sw]
theorem sw_head (a : Int) (c : Int) (l : List Int) : sw a (c :: l) = (c + a * (sw a l).headD 0) :: sw a l := rfl
theorem shf_succ (a : Int) : ∀ (i : Nat) (l : List Int), shf a (i + 1) l = (shf a i l).take i ++ sw a ((shf a i l).drop i)
  | 0, l => by
    show (match sw a l with | [] => [] | b :: q => b :: shf a 0 q) = _
    cases e : sw a l with
    | nil => show [] = [] ++ sw a l; rw [e]; rfl
    | cons b q => show b :: q = [] ++ sw a l; rw [e]; rfl
  | i + 1, l => by
    have h1 : shf a (i + 2) l = (match sw a l with | [] => [] | b :: q => b :: shf a (i + 1) q) := rfl
    have h2 : shf a (i + 1) l = (match sw a l with | [] => [] | b :: q => b :: shf a i q) := rfl
    rw [h1, h2]
    cases e : sw a l with
    | nil => rfl
    | cons b q =>
      show b :: shf a (i + 1) q = (b :: shf a i q).take (i + 1) ++ sw a ((b :: shf a i q).drop (i + 1))
      rw [shf_succ a i q]; rfl
/-- a step within a level -/
theorem sw_step (a : Int) {X : List Int} {p : Nat} (hp : p + 1 < X.length) :
    (X.take (p + 1) ++ sw a (X.drop (p + 1))).set p ((X.take (p + 1) ++ sw a (X.drop (p + 1))).getD p 0 + a * (X.take (p + 1) ++ sw a (X.drop (p + 1))).getD (p + 1) 0) = X.take p ++ sw a (X.drop p) := by
  have hd : X.drop p = X[p] :: X.drop (p + 1) := List.drop_eq_getElem_cons (by omega)
  have ht : X.take (p + 1) = X.take p ++ [X[p]] := by rw [List.take_add_one, List.getElem?_eq_getElem (by omega)]; rfl
  have lt : (X.take p).length = p := by rw [List.length_take]; omega
  have g1 : (X.take (p + 1) ++ sw a (X.drop (p + 1))).getD p 0 = X[p] := by
    rw [List.getD_eq_getElem?_getD, List.getElem?_append, if_pos (by rw [List.length_take]; omega), List.getElem?_take, if_pos (by omega), List.getElem?_eq_getElem (by omega)]; rfl
  have g2 : (X.take (p + 1) ++ sw a (X.drop (p + 1))).getD (p + 1) 0 = (sw a (X.drop (p + 1))).headD 0 := by
    rw [List.getD_eq_getElem?_getD, List.getElem?_append, if_neg (by rw [List.length_take]; omega), List.length_take]
    have : p + 1 - min (p + 1) X.length = 0 := by omega
    rw [this]
    cases sw a (X.drop (p + 1)) <;> rfl
  rw [g1, g2, hd, sw_head, ht, List.append_assoc, List.set_append, if_neg (by omega), lt, Nat.sub_self]
  rfl
theorem zah_at : ∀ (l : List Int) (k : Nat), (∀ i, i < k → l.getD i 0 = 0) → k < l.length → l.getD k 0 ≠ 0 → zah l = k
  | [], k, _, h, _ => by simp at h
  | c :: l, 0, _, _, h => by
    have : c ≠ 0 := h
    simp [zah, this]
  | c :: l, k + 1, hz, hk, h => by
    have h0 : c = 0 := hz 0 (by omega)
    have := zah_at l k (fun i hi => hz (i + 1) (by omega)) (by simpa using hk) h
    simp [zah, h0, this]
theorem chg_count : ∀ l : List Int, chg l = ((List.range (l.length - 1)).filter fun i => decide (l.getD (i + 1) 0 > 0) != decide (l.getD i 0 > 0)).length
  | [] => rfl
  | [a] => rfl
  | a :: b :: l => by
    have ih := chg_count (b :: l)
    show (if decide (b > 0) != decide (a > 0) then 1 else 0) + chg (b :: l) = _
    rw [ih]
    show _ = ((List.range ((b :: l).length - 1 + 1)).filter _).length
    rw [List.range_succ_eq_map, List.filter_cons, List.filter_map, Nat.add_comm]
    have g1 : (a :: b :: l).getD (0 + 1) 0 = b := rfl
    have g0 : (a :: b :: l).getD 0 0 = a := rfl
    rw [g1, g0]
    by_cases c : (decide (b > 0) != decide (a > 0)) = true
    · rw [if_pos c, if_pos c]
      show _ = (List.map Nat.succ _).length + 1
      rw [List.length_map]
      rfl
    · rw [if_neg c, if_neg c, List.length_map, Nat.add_zero]
      rfl
theorem shf_top {l : List Int} {rs : List K} (h : Sp (tz l) rs) (a : Int) {n : Nat} (hn : l.length ≤ n + 1) : (shf a n l).getD rs.length 0 = 1 ∧ rs.length < (shf a n l).length := by
  have e := h.shf a hn
  have hl := h.len
  rw [len_tz] at hl
  refine ⟨?_, by rw [shf_len]; omega⟩
  have := cf_lin (rs.map (fun r => r - ic a))
  rw [← e, cf_tz, List.length_map] at this
  exact ic_inj this
end MG

-- part NG
namespace MG
open K
/-- where the floor lies -/
theorem floor_in {rs : List K} {k bits : Nat} (hk : k < rs.length) (hr : ∀ r, r ∈ rs → -8 < r ∧ r < 8) : ∃ z : Int, IsFl rs ((2 ^ bits : Nat) : Rat) k z ∧ -(8 * 2 ^ bits) ≤ z ∧ z < 8 * 2 ^ bits := by
  have hs : (0 : Rat) < ((2 ^ bits : Nat) : Rat) := two_pow_pos bits
  obtain ⟨z, hz⟩ := floor_ex rs k hk hs
  have e8 : ∀ m : Int, m = 8 * 2 ^ bits → ((m : Rat) / ((2 ^ bits : Nat) : Rat)) = 8 := fun m hm => by
    subst hm
    have h1 : (((8 * 2 ^ bits : Int)) : Rat) = 8 * ((2 ^ bits : Nat) : Rat) := by
      have : (8 * 2 ^ bits : Int) = ((8 * 2 ^ bits : Nat) : Int) := by push_cast; rfl
      rw [this, Rat.intCast_natCast, Rat.natCast_mul]; rfl
    rw [h1]
    grind
  refine ⟨z, hz, ?_, ?_⟩
  · refine (hz _).mp ?_
    have e : (((-(8 * 2 ^ bits) : Int) : Rat) / ((2 ^ bits : Nat) : Rat)) = -8 := by
      have := e8 (8 * 2 ^ bits) rfl
      rw [Rat.intCast_neg]
      grind
    rw [e]
    have : atl rs (ofQ (-8)) = rs.length := by
      unfold atl
      rw [List.countP_eq_length]
      intro r h
      have := (hr r h).1
      exact decide_eq_true (by rw [show ofQ (-8) = (-8 : K) from rfl]; exact Std.le_of_lt this)
    omega
  · have := hz (8 * 2 ^ bits)
    rw [e8 _ rfl] at this
    have z0 : atl rs (ofQ 8) = 0 := atl_zero fun r h => by
      have := (hr r h).2
      rw [show ofQ 8 = (8 : K) from rfl]; exact this
    rw [z0] at this
    by_cases c : z < 8 * 2 ^ bits
    · exact c
    · have := this.mpr (by omega)
      omega
/-- the floor is the last that passes -/
theorem pass_iff {l : List Int} {rs : List K} (h : Sp (tz l) rs) {k bits : Nat} {z : Int} (hz : IsFl rs ((2 ^ bits : Nat) : Rat) k z) (m : Int) {n : Nat} (hn : l.length ≤ n + 1) :
    rs.length - k ≤ chg (nz (shf m n (scl ((2 ^ bits : Nat) : Int) l))) + zah (shf m n (scl ((2 ^ bits : Nat) : Int) l)) ↔ m ≤ z := by
  have hd : (0 : Int) < ((2 ^ bits : Nat) : Int) := by exact_mod_cast Nat.two_pow_pos bits
  have sp := h.scl hd
  have r := (roots_from sp m (n := n) (by rw [scl_len]; exact hn)).1
  rw [r, (atl_scale hd m rs).1]
  exact hz m
end MG

-- part NH
namespace MG
open K
/-! ## Order of edges, neighbours -/
def ltE (e f : Nat × Nat) : Prop := e.1 < f.1 ∨ (e.1 = f.1 ∧ e.2 < f.2)
structure Ord (g : Kqg4.Graph) : Prop where
  ord : g.edges.Pairwise ltE
  mem : ∀ e, e ∈ g.edges → e.1 < e.2 ∧ e.2 < g.vertexCount
theorem eq_of_lt {α : Type} {R : α → α → Prop} (as : ∀ a b, R a b → R b a → False) (ir : ∀ a, ¬ R a a) : ∀ {l m : List α}, l.Pairwise R → m.Pairwise R → (∀ x, x ∈ l ↔ x ∈ m) → l = m
  | [], [], _, _, _ => rfl
  | [], b :: m, _, _, h => by have := (h b).mpr List.mem_cons_self; simp at this
  | a :: l, [], _, _, h => by have := (h a).mp List.mem_cons_self; simp at this
  | a :: l, b :: m, h1, h2, h => by
    obtain ⟨a1, a2⟩ := List.pairwise_cons.mp h1
    obtain ⟨b1, b2⟩ := List.pairwise_cons.mp h2
    have e : a = b := by
      rcases List.mem_cons.mp ((h a).mp List.mem_cons_self) with q | q
      · exact q
      · rcases List.mem_cons.mp ((h b).mpr List.mem_cons_self) with r | r
        · exact r.symm
        · exact (as _ _ (a1 b r) (b1 a q)).elim
    subst e
    rw [eq_of_lt as ir a2 b2 fun x => ⟨fun hx => ?_, fun hx => ?_⟩]
    · rcases List.mem_cons.mp ((h x).mp (List.mem_cons_of_mem _ hx)) with q | q
      · subst q; exact (ir _ (a1 _ hx)).elim
      · exact q
    · rcases List.mem_cons.mp ((h x).mpr (List.mem_cons_of_mem _ hx)) with q | q
      · subst q; exact (ir _ (b1 _ hx)).elim
      · exact q
theorem ltE_as (a b : Nat × Nat) (h : ltE a b) (k : ltE b a) : False := by unfold ltE at *; omega
theorem ltE_ir (a : Nat × Nat) : ¬ ltE a a := by unfold ltE; omega
def tchN (v : Nat) (e : Nat × Nat) : Bool := decide (e.1 = v) || decide (e.2 = v)
def nbN (g : Kqg4.Graph) (v : Nat) : List Nat := (g.edges.filter (tchN v)).map fun e => e.1 + e.2 - v
theorem nb_eq {g : Kqg4.Graph} (h : Ord g) (v : Nat) : nbN g v = Kqg4.neighbors g v := by
  refine eq_of_lt (R := fun a b => a < b) (fun a b h k => by omega) (fun a => by omega) ?_ ?_ fun x => ?_
  · unfold nbN
    rw [List.pairwise_map]
    refine List.Pairwise.imp_of_mem (fun {e f} he hf hlt => ?_) (h.ord.filter (tchN v))
    obtain ⟨e1, e2⟩ := List.mem_filter.mp he
    obtain ⟨f1, f2⟩ := List.mem_filter.mp hf
    have := h.mem e e1
    have := h.mem f f1
    simp only [tchN, Bool.or_eq_true, decide_eq_true_eq] at e2 f2
    unfold ltE at hlt
    omega
  · unfold Kqg4.neighbors
    exact List.pairwise_lt_range.filter _
  · unfold nbN Kqg4.neighbors
    rw [List.mem_map, List.mem_filter, List.mem_range]
    constructor
    · rintro ⟨e, he, rfl⟩
      obtain ⟨e1, e2⟩ := List.mem_filter.mp he
      have m := h.mem e e1
      simp only [tchN, Bool.or_eq_true, decide_eq_true_eq] at e2
      refine ⟨by omega, ?_⟩
      have : (min v (e.1 + e.2 - v), max v (e.1 + e.2 - v)) = e := by
        apply Prod.ext
        · show min v (e.1 + e.2 - v) = e.1; omega
        · show max v (e.1 + e.2 - v) = e.2; omega
      rw [this]
      exact List.contains_iff_mem.mpr e1
    · rintro ⟨hx, hc⟩
      have hm := List.contains_iff_mem.mp hc
      have m := h.mem _ hm
      refine ⟨_, List.mem_filter.mpr ⟨hm, ?_⟩, ?_⟩
      · simp only [tchN, Bool.or_eq_true, decide_eq_true_eq]; omega
      · show min v x + max v x - v = x; omega
/-! ## Breadth first -/
def Tp (g : Kqg4.Graph) (q : Path) : List Path := Kqg4.pathsFrom g (g.vertexCount + 1 - q.length) q
def Te (g : Kqg4.Graph) (q : Path) : List (Edge Path) := pe g (g.vertexCount + 1 - q.length) q
theorem flat_congr {α β : Type} {l : List α} {f h : α → List β} (e : ∀ a, a ∈ l → f a = h a) : l.flatMap f = l.flatMap h := by
  induction l with
  | nil => rfl
  | cons a l ih => rw [List.flatMap_cons, List.flatMap_cons, e a List.mem_cons_self, ih fun b hb => e b (List.mem_cons_of_mem _ hb)]
theorem Tp_eq {g : Kqg4.Graph} {q : Path} (h : POk g.vertexCount q) : Tp g q = q :: (ch g q).flatMap (Tp g) ∧ Te g q = (ch g q).flatMap fun c => (q, c) :: Te g c := by
  have l := nodup_le _ q h.nd h.lt
  unfold Tp Te
  have e : g.vertexCount + 1 - q.length = (g.vertexCount - q.length) + 1 := by omega
  rw [e, pathsFrom_succ]
  have k : ∀ c, c ∈ ch g q → g.vertexCount + 1 - c.length = g.vertexCount - q.length := fun c hc => by
    have := (ch_ok h c hc).2.1; omega
  refine ⟨?_, ?_⟩
  · congr 1
    exact flat_congr fun c hc => by rw [k c hc]
  · show (ch g q).flatMap (fun c => (q, c) :: pe g _ c) = _
    exact flat_congr fun c hc => by rw [k c hc]
def lab (F : List Path) (J : List (Nat × Nat)) : List (Edge Path) := J.map fun e => (F.getD e.1 [], F.getD e.2 [])
structure Bfs (g : Kqg4.Graph) (v : Nat) (F : List Path) (J : List (Nat × Nat)) (a : Nat) : Prop where
  le : a ≤ F.length
  ok : ∀ q, q ∈ F → POk g.vertexCount q
  fp : (F.take a ++ (F.drop a).flatMap (Tp g)).Perm (Tp g [v])
  jp : (lab F J ++ (F.drop a).flatMap (Te g)).Perm (Te g [v])
  jl : ∀ e, e ∈ J → e.1 < e.2 ∧ e.2 < F.length
theorem Bfs.init {g : Kqg4.Graph} {v : Nat} (hv : v < g.vertexCount) : Bfs g v [[v]] [] 0 := by
  refine ⟨by simp, fun q hq => ?_, ?_, ?_, fun e he => by simp at he⟩
  · rw [List.mem_singleton.mp hq]
    exact ⟨by simp, by simp, fun w hw => by rw [List.mem_singleton.mp hw]; exact hv⟩
  · simp
  · simp [lab]
def kids (a n : Nat) (L : List Path) : List (Nat × Nat) := (List.range L.length).map fun t => (a, n + t)
theorem lab_app (F : List Path) (J J' : List (Nat × Nat)) : lab F (J ++ J') = lab F J ++ lab F J' := List.map_append
theorem lab_grow {F L : List Path} {J : List (Nat × Nat)} (h : ∀ e, e ∈ J → e.1 < e.2 ∧ e.2 < F.length) : lab (F ++ L) J = lab F J := by
  refine List.map_congr_left fun e he => ?_
  obtain ⟨h1, h2⟩ := h e he
  have k (i : Nat) (hi : i < F.length) : (F ++ L).getD i [] = F.getD i [] := by
    rw [List.getD_eq_getElem?_getD, List.getD_eq_getElem?_getD, List.getElem?_append_left hi]
  rw [k _ (by omega), k _ h2]
theorem lab_kids {F L : List Path} {a : Nat} (ha : a < F.length) : lab (F ++ L) (kids a F.length L) = L.map fun c => (F.getD a [], c) := by
  unfold lab kids
  rw [List.map_map]
  refine List.ext_getElem (by simp) fun i h1 h2 => ?_
  have h3 : i < L.length := by simpa using h1
  have e1 : (F ++ L).getD a [] = F.getD a [] := by rw [List.getD_eq_getElem?_getD, List.getD_eq_getElem?_getD, List.getElem?_append_left ha]
  have e2 : (F ++ L).getD (F.length + i) [] = L[i] := by rw [List.getD_eq_getElem?_getD, List.getElem?_append_right (by omega), Nat.add_sub_cancel_left, List.getElem?_eq_getElem h3]; rfl
  simp only [List.getElem_map, List.getElem_range, Function.comp]
  rw [e1, e2]
theorem flat_pair {α β : Type} (L : List α) (k : α → β) (T : α → List β) : (L.flatMap fun c => k c :: T c).Perm (L.map k ++ L.flatMap T) := by
  induction L with
  | nil => exact .refl _
  | cons a L ih =>
    rw [List.flatMap_cons, List.flatMap_cons, List.map_cons, List.cons_append, List.cons_append]
    refine .cons _ ?_
    refine (List.Perm.append_left _ ih).trans ?_
    rw [← List.append_assoc, ← List.append_assoc]
    exact List.Perm.append_right _ List.perm_append_comm
theorem Bfs.step {g : Kqg4.Graph} {v : Nat} {F : List Path} {J : List (Nat × Nat)} {a : Nat} (h : Bfs g v F J a) (ha : a < F.length) : Bfs g v (F ++ ch g (F.getD a [])) (J ++ kids a F.length (ch g (F.getD a []))) (a + 1) := by
  have hq : F.getD a [] = F[a] := by rw [List.getD_eq_getElem?_getD, List.getElem?_eq_getElem ha]; rfl
  have qm : F[a] ∈ F := List.getElem_mem ha
  have ok := h.ok _ qm
  rw [hq]
  obtain ⟨t1, t2⟩ := Tp_eq ok
  have dr : F.drop a = F[a] :: F.drop (a + 1) := List.drop_eq_getElem_cons ha
  have tk : F.take (a + 1) = F.take a ++ [F[a]] := by rw [List.take_add_one, List.getElem?_eq_getElem ha]; rfl
  have d2 : ∀ L, (F ++ L).drop (a + 1) = F.drop (a + 1) ++ L := fun L => List.drop_append_of_le_length (by omega)
  have k2 : ∀ L, (F ++ L).take (a + 1) = F.take (a + 1) := fun L => List.take_append_of_le_length (by omega)
  refine ⟨by rw [List.length_append]; omega, fun q hq2 => ?_, ?_, ?_, fun e he => ?_⟩
  · rcases List.mem_append.mp hq2 with m | m
    · exact h.ok q m
    · exact (ch_ok ok q m).1
  · refine List.Perm.trans ?_ h.fp
    rw [d2, k2, dr, tk, List.flatMap_append, List.flatMap_cons, t1, List.append_assoc]
    refine List.Perm.append_left _ ?_
    simp only [List.cons_append, List.nil_append]
    exact .cons _ List.perm_append_comm
  · refine List.Perm.trans ?_ h.jp
    rw [d2, dr, lab_app, lab_grow h.jl, lab_kids ha, hq, List.flatMap_append, List.flatMap_cons, t2, List.append_assoc]
    refine List.Perm.append_left _ ?_
    refine List.Perm.trans ?_ (List.Perm.append_right _ (flat_pair _ _ _).symm)
    rw [List.append_assoc]
    exact List.Perm.append_left _ List.perm_append_comm
  · rw [List.length_append]
    rcases List.mem_append.mp he with m | m
    · have := h.jl e m; omega
    · obtain ⟨t, ht, rfl⟩ := List.mem_map.mp m
      have := List.mem_range.mp ht
      show a < F.length + t ∧ F.length + t < _
      omega
theorem flat_len {α β : Type} {T : α → List β} (h : ∀ a, 1 ≤ (T a).length) : ∀ l : List α, l.length ≤ (l.flatMap T).length
  | [] => by simp
  | a :: l => by
    have := flat_len h l
    have := h a
    rw [List.flatMap_cons, List.length_append, List.length_cons]; omega
theorem Tp_pos (g : Kqg4.Graph) (q : Path) : 1 ≤ (Tp g q).length := List.length_pos_of_mem (pathsFrom_self g _ q)
theorem Bfs.bound {g : Kqg4.Graph} {v : Nat} {F : List Path} {J : List (Nat × Nat)} {a : Nat} (h : Bfs g v F J a) : F.length ≤ (Tp g [v]).length := by
  have := h.fp.length_eq
  rw [List.length_append] at this
  have l := flat_len (Tp_pos g) (F.drop a)
  have e : (F.take a).length + (F.drop a).length = F.length := by rw [List.length_take, List.length_drop]; have := h.le; omega
  omega
theorem paths_le (g : Kqg4.Graph) : ∀ (f : Nat) (q : Path), (Kqg4.pathsFrom g f q).length ≤ (g.vertexCount + 1) ^ f
  | 0, q => by simp [Kqg4.pathsFrom]
  | f + 1, q => by
    rw [pathsFrom_succ, List.length_cons, Nat.pow_succ]
    have hc : (ch g q).length ≤ g.vertexCount := by
      unfold ch Kqg4.neighbors
      rw [List.length_map]
      refine Nat.le_trans (List.length_filter_le _ _) (Nat.le_trans (List.length_filter_le _ _) ?_)
      rw [List.length_range]; exact Nat.le_refl _
    have fl : ∀ L : List Path, (L.flatMap (Kqg4.pathsFrom g f)).length ≤ L.length * (g.vertexCount + 1) ^ f := fun L => by
      induction L with
      | nil => simp
      | cons a L ih =>
        rw [List.flatMap_cons, List.length_append, List.length_cons, Nat.succ_mul]
        have := paths_le g f a
        omega
    have p1 : 1 ≤ (g.vertexCount + 1) ^ f := Nat.one_le_pow _ _ (by omega)
    have := fl (ch g q)
    have := Nat.mul_le_mul_right ((g.vertexCount + 1) ^ f) hc
    rw [Nat.mul_comm, Nat.succ_mul]
    omega
theorem Tp_root {g : Kqg4.Graph} {v : Nat} (h : g.vertexCount ≠ 0) : Tp g [v] = Kqg4.paths g v := by
  unfold Tp Kqg4.paths
  rw [List.length_singleton, Nat.add_sub_cancel]
theorem Tp_size {g : Kqg4.Graph} (h : g.vertexCount ≤ 7) (v : Nat) : (Tp g [v]).length ≤ 4000000 := by
  unfold Tp
  rw [List.length_singleton, Nat.add_sub_cancel]
  refine Nat.le_trans (paths_le g _ _) (Nat.le_trans (Nat.pow_le_pow_left (by omega : g.vertexCount + 1 ≤ 8) _) (Nat.le_trans (Nat.pow_le_pow_right (by decide) h) (by decide)))
/-- what stands in the end -/
theorem Bfs.done {g : Kqg4.Graph} {v : Nat} {F : List Path} {J : List (Nat × Nat)} (hv : v < g.vertexCount) (h : Bfs g v F J F.length) :
    F.length = (Kqg4.paths g v).length ∧ J.length = (pe g g.vertexCount [v]).length ∧ ∀ k, cnt J k = cnt (pe g g.vertexCount [v]) k := by
  have fp := h.fp
  have jp := h.jp
  rw [List.take_length, List.drop_length, List.flatMap_nil, List.append_nil] at fp
  rw [List.drop_length, List.flatMap_nil, List.append_nil] at jp
  have e0 : Te g [v] = pe g g.vertexCount [v] := by unfold Te; rw [List.length_singleton, Nat.add_sub_cancel]
  rw [e0] at jp
  rw [Tp_root (by omega)] at fp
  have pk : POk g.vertexCount [v] := ⟨by simp, by simp, fun w hw => by rw [List.mem_singleton.mp hw]; exact hv⟩
  have nd : F.Nodup := (fp.nodup_iff).mpr (pt_good g g.vertexCount [v] pk (by simp; omega)).1.nd
  refine ⟨fp.length_eq, by rw [← jp.length_eq, lab, List.length_map], fun k => ?_⟩
  rw [← cnt_perm jp]
  refine (cnt_map (fun i => F.getD i []) J.length J (Nat.le_refl _) (fun e he f hf a ha b hb hab => ?_) k).symm
  have le := h.jl e he
  have lf := h.jl f hf
  have ia : a < F.length := by rcases ha with r | r <;> omega
  have ib : b < F.length := by rcases hb with r | r <;> omega
  have : F[a] = F[b] := by
    have hab2 : F.getD a [] = F.getD b [] := hab
    rw [List.getD_eq_getElem?_getD, List.getD_eq_getElem?_getD, List.getElem?_eq_getElem ia, List.getElem?_eq_getElem ib] at hab2
    exact hab2
  exact (List.getElem_inj nd).mp this
end MG
namespace MG
theorem pe_len (g : Kqg4.Graph) : ∀ (f : Nat) (q : Path), (pe g f q).length + 1 = (Kqg4.pathsFrom g f q).length
  | 0, q => rfl
  | f + 1, q => by
    rw [pathsFrom_succ, List.length_cons]
    show ((ch g q).flatMap fun c => (q, c) :: pe g f c).length + 1 = _
    congr 1
    induction ch g q with
    | nil => rfl
    | cons c L ih =>
      rw [List.flatMap_cons, List.flatMap_cons, List.length_append, List.length_append, ih, List.length_cons, pe_len g f c]
theorem Te_le {g : Kqg4.Graph} (h : Ord g) (v : Nat) : (Te g [v]).length ≤ (Tp g [v]).length := by
  have := pe_len g (g.vertexCount + 1 - 1) [v]
  unfold Te Tp
  rw [List.length_singleton]; omega
end MG

-- part NI
namespace MG
open K
open Kqg1 (Poly coefficient)
/-! ## What the specification answers -/
theorem counts_is (g : Kqg4.Graph) : Kqg4.matchingCounts g = (List.range (g.vertexCount / 2 + 1)).map fun k => cnt g.edges k := by
  unfold Kqg4.matchingCounts
  rw [mts_eq]
  rfl
theorem counts_at (g : Kqg4.Graph) {k : Nat} (h : k < g.vertexCount / 2 + 1) : (Kqg4.matchingCounts g).getD k 0 = cnt g.edges k := by
  rw [counts_is, List.getD_eq_getElem?_getD, List.getElem?_map, List.getElem?_range h]; rfl
theorem tq_tr {l : List Int} {n : Nat} (hl : l.length = n + 1) (h : l.getD n 0 ≠ 0) : Tr (tq l) := by
  refine tr_of_top (n := n) (by simp [tq, hl]) ?_
  unfold coefficient tq
  rw [List.getD_eq_getElem?_getD, List.getElem?_map]
  rw [List.getD_eq_getElem?_getD] at h
  rw [List.getElem?_eq_getElem (by omega)] at h ⊢
  intro z
  apply h
  have z2 : ((l[n] : Int) : Rat) = ((0 : Int) : Rat) := z
  exact Rat.intCast_inj.mp z2
theorem mp_getD_top (n : Nat) {α : Type} [DecidableEq α] (E : List (Edge α)) : (mp n E).getD n 0 = 1 := by
  have := mp_top n E
  rw [cf_tz] at this
  exact ic_inj this
theorem alt_sgn (k : Nat) (c : Nat) : Kqg4.alternating k (c : Rat) = ((sgn k * (c : Int) : Int) : Rat) := by
  unfold Kqg4.alternating sgn
  split
  · rw [Int.one_mul, Rat.intCast_natCast]
  · rw [Int.neg_mul, Int.one_mul, Rat.intCast_neg, Rat.intCast_natCast]
theorem mpoly_is (g : Kqg4.Graph) : Kqg4.matchingPolynomial g = tq (mp g.vertexCount g.edges) := by
  have e : ((List.range (g.vertexCount + 1)).map fun i => if (g.vertexCount - i) % 2 = 1 then (0 : Rat) else Kqg4.alternating ((g.vertexCount - i) / 2) (((Kqg4.matchingCounts g).getD ((g.vertexCount - i) / 2) 0 : Nat) : Rat)) = tq (mp g.vertexCount g.edges) := by
    unfold tq mp
    rw [List.map_map]
    refine List.map_congr_left fun i hi => ?_
    show _ = (((if (g.vertexCount - i) % 2 = 1 then 0 else sgn ((g.vertexCount - i) / 2) * (cnt g.edges ((g.vertexCount - i) / 2) : Nat) : Int)) : Rat)
    by_cases c : (g.vertexCount - i) % 2 = 1
    · rw [if_pos c, if_pos c]; rfl
    · rw [if_neg c, if_neg c, counts_at g (by omega), alt_sgn]
  show Kqg1.trim _ = _
  rw [show Kqg1.trim ((List.range (g.vertexCount + 1)).map fun i => if (g.vertexCount - i) % 2 = 1 then (0 : Rat) else Kqg4.alternating ((g.vertexCount - i) / 2) (((Kqg4.matchingCounts g).getD ((g.vertexCount - i) / 2) 0 : Nat) : Rat)) = Kqg1.trim (tq (mp g.vertexCount g.edges)) from by rw [e]]
  exact trim_id (tq_tr (mp_len _ _) (by rw [mp_getD_top]; decide))
theorem coef_tq (l : List Int) (i : Nat) : coefficient (tq l) i = ((l.getD i 0 : Int) : Rat) := by
  unfold coefficient tq
  rw [List.getD_eq_getElem?_getD, List.getD_eq_getElem?_getD, List.getElem?_map]
  cases l[i]? <;> rfl
theorem sq_is (g : Kqg4.Graph) : Kqg4.squaredPolynomial g = tq (sqI g.vertexCount g.edges) := by
  have e : ((List.range (g.vertexCount / 2 + 1)).map fun i => coefficient (Kqg4.matchingPolynomial g) (2 * i + g.vertexCount % 2)) = tq (sqI g.vertexCount g.edges) := by
    unfold sqI
    rw [mpoly_is]
    show _ = List.map _ (List.map _ _)
    rw [List.map_map]
    refine List.map_congr_left fun i hi => ?_
    rw [coef_tq]; rfl
  show Kqg1.trim ((List.range (g.vertexCount / 2 + 1)).map fun i => coefficient (Kqg4.matchingPolynomial g) (2 * i + g.vertexCount % 2)) = _
  rw [e]
  refine trim_id (tq_tr (n := g.vertexCount / 2) (sqI_len _ _) ?_)
  have := sqI_top g.vertexCount g.edges
  rw [cf_tz] at this
  rw [ic_inj this]; decide
theorem frac_int (c : Int) : Kqg1.fraction (c : Rat) = [c, 1] := rfl
theorem poly_fields (l : List Int) : Kqg4Neutral.fields (Kqg4.polynomialResult (tq l)) = (l.length : Int) :: l.flatMap fun c => [c, 1] := by
  show ((tq l).length : Int) :: (tq l).flatMap Kqg1.fraction = _
  unfold tq
  rw [List.length_map, List.flatMap_map]
  rfl
theorem perf_is (g : Kqg4.Graph) : ((mts g.edges).filter fun m => 2 * m.length == g.vertexCount).length = Kqg4.perfectMatchings g := by
  unfold Kqg4.perfectMatchings
  by_cases c : g.vertexCount % 2 = 1
  · rw [if_pos c]
    have : ((mts g.edges).filter fun m => 2 * m.length == g.vertexCount) = [] := List.filter_eq_nil_iff.mpr fun m _ h => by
      have := eq_of_beq h; omega
    rw [this]; rfl
  · rw [if_neg c, counts_at g (by omega), cnt]
    congr 1
    congr 1
    funext m
    by_cases d : m.length = g.vertexCount / 2
    · rw [d]
      have : 2 * (g.vertexCount / 2) = g.vertexCount := by omega
      rw [this]; simp
    · rw [beq_eq_false_iff_ne.mpr d]; exact beq_eq_false_iff_ne.mpr (by omega)
theorem foldl_sum : ∀ (l : List Int) (a : Int), l.foldl (fun x y => x + y) a = a + l.sum
  | [], a => by simp
  | b :: l, a => by rw [List.foldl_cons, foldl_sum l, List.sum_cons]; omega
theorem cform_is (g : Kqg4.Graph) : Kqg4.complementFormula g = ((List.range (g.vertexCount / 2 + 1)).map fun k => sgn k * ((cnt g.edges k : Nat) : Int) * ((Kqg4.perfectMatchingsOfComplete (g.vertexCount - 2 * k) : Nat) : Int)).sum := by
  unfold Kqg4.complementFormula
  have hl : (Kqg4.matchingCounts g).length = g.vertexCount / 2 + 1 := by rw [counts_is]; simp
  show List.foldl _ 0 _ = _
  rw [foldl_sum, Int.zero_add, hl]
  congr 1
  refine List.map_congr_left fun k hk => ?_
  rw [counts_at g (List.mem_range.mp hk)]
  show sgn k * _ = _
  push_cast
  rw [Int.mul_assoc]
/-! ### edges -/
theorem insert_perm (e : Nat × Nat) : ∀ E : List (Nat × Nat), (Kqg4.insertEdge e E).Perm (e :: E)
  | [] => .refl _
  | f :: E => by
    unfold Kqg4.insertEdge
    split
    · exact .refl _
    · exact ((insert_perm e E).cons f).trans (List.Perm.swap e f E)
theorem insert_ord {e : Nat × Nat} : ∀ {E : List (Nat × Nat)}, E.Pairwise ltE → e ∉ E → (Kqg4.insertEdge e E).Pairwise ltE
  | [], _, _ => by simp [Kqg4.insertEdge]
  | f :: E, h, ne => by
    obtain ⟨h1, h2⟩ := List.pairwise_cons.mp h
    have ne1 : e ≠ f := fun z => ne (by rw [z]; exact List.mem_cons_self)
    have ne2 : e ∉ E := fun z => ne (List.mem_cons_of_mem _ z)
    unfold Kqg4.insertEdge
    split
    · rename_i c
      refine List.pairwise_cons.mpr ⟨fun x hx => ?_, h⟩
      rcases List.mem_cons.mp hx with q | q
      · rw [q]; exact c
      · have := h1 x q
        unfold ltE at *; omega
    · rename_i c
      refine List.pairwise_cons.mpr ⟨fun x hx => ?_, insert_ord h2 ne2⟩
      rcases List.mem_cons.mp ((insert_perm e E).mem_iff.mp hx) with q | q
      · rw [q]
        unfold ltE
        have : ¬ (e.1 = f.1 ∧ e.2 = f.2) := fun z => ne1 (Prod.ext z.1 z.2)
        omega
      · exact h1 x q
/-- lists in order, of the same members, none twice -/
theorem ord_eq {E F : List (Nat × Nat)} (p : E.Perm F) (nd : F.Nodup) (o : E.Pairwise fun e f => e.1 < f.1 ∨ (e.1 = f.1 ∧ e.2 ≤ f.2)) {G : List (Nat × Nat)} (hG : G.Pairwise ltE) (m : ∀ x, x ∈ F ↔ x ∈ G) : E = G := by
  refine eq_of_lt ltE_as ltE_ir ?_ hG fun x => (p.mem_iff).trans (m x)
  have ndE : E.Nodup := (p.nodup_iff).mpr nd
  rw [List.nodup_iff_pairwise_ne] at ndE
  refine List.Pairwise.imp (fun {a b} h => ?_) (o.and ndE)
  obtain ⟨h1, h2⟩ := h
  unfold ltE
  have : ¬ (a.1 = b.1 ∧ a.2 = b.2) := fun z => h2 (Prod.ext z.1 z.2)
  omega
theorem ord_nodup {E : List (Nat × Nat)} (h : E.Pairwise ltE) : E.Nodup := by
  rw [List.nodup_iff_pairwise_ne]
  exact h.imp fun {a b} h (e : a = b) => ltE_ir a (by rw [← e] at h; exact h)
structure GOK (g : Kqg4.Graph) : Prop where
  ord : Ord g
  n1 : 1 ≤ g.vertexCount
  n7 : g.vertexCount ≤ 7
  e12 : g.edges.length ≤ 12
theorem GOK.nil {n : Nat} (h1 : 1 ≤ n) (h7 : n ≤ 7) : GOK ⟨n, []⟩ := ⟨⟨List.Pairwise.nil, fun e he => by simp at he⟩, h1, h7, by simp⟩
theorem GOK.add {g : Kqg4.Graph} (h : GOK g) {e : Nat × Nat} (he : e.1 < e.2 ∧ e.2 < g.vertexCount) (ne : e ∉ g.edges) (l : g.edges.length < 12) : GOK ⟨g.vertexCount, Kqg4.insertEdge e g.edges⟩ := by
  refine ⟨⟨insert_ord h.ord.ord ne, fun x hx => ?_⟩, h.n1, h.n7, ?_⟩
  · rcases List.mem_cons.mp ((insert_perm e _).mem_iff.mp hx) with q | q
    · rw [q]; exact he
    · exact h.ord.mem x q
  · show (Kqg4.insertEdge e g.edges).length ≤ 12
    rw [(insert_perm e _).length_eq, List.length_cons]; omega
theorem GOK.cut {g : Kqg4.Graph} (h : GOK g) (p : Nat × Nat → Bool) : GOK ⟨g.vertexCount, g.edges.filter p⟩ :=
  ⟨⟨h.ord.ord.filter p, fun x hx => h.ord.mem x (List.mem_filter.mp hx).1⟩, h.n1, h.n7, Nat.le_trans (List.length_filter_le _ _) h.e12⟩
theorem GOK.valid {g : Kqg4.Graph} (h : Ord g) : Valid (List.range g.vertexCount) g.edges := ⟨List.nodup_range, fun e he => by
  have := h.mem e he
  exact ⟨List.mem_range.mpr (by omega), List.mem_range.mpr (by omega), by omega⟩⟩
theorem GOK.sp {g : Kqg4.Graph} (h : Ord g) : ∃ rs, Sp (tz (mp g.vertexCount g.edges)) rs := graph_sp _ _ _ (GOK.valid h) List.length_range
/-! ### without a vertex, the complement -/
def loN (gone v : Nat) : Nat := if gone < v then v - 1 else v
theorem wv_edges (g : Kqg4.Graph) (v : Nat) : (Kqg4.withoutVertex g v).edges = (offv g.edges v).map fun e => (loN v e.1, loN v e.2) := rfl
theorem wv_cnt {g : Kqg4.Graph} {v : Nat} (k : Nat) : cnt (Kqg4.withoutVertex g v).edges k = cnt (offv g.edges v) k := by
  rw [wv_edges]
  refine cnt_map (loN v) _ _ (Nat.le_refl _) (fun e he f hf a ha b hb hab => ?_) k
  have e2 := (List.mem_filter.mp he).2
  have f2 := (List.mem_filter.mp hf).2
  simp only [Bool.and_eq_true, bne_iff_ne, ne_eq] at e2 f2
  unfold loN at hab
  have na : a ≠ v := by rcases ha with r | r <;> rw [r] <;> omega
  have nb : b ≠ v := by rcases hb with r | r <;> rw [r] <;> omega
  split at hab <;> split at hab <;> omega
def allN (n : Nat) : List (Nat × Nat) := (List.range n).flatMap fun a => (List.range (n - (a + 1))).map fun i => (a, a + 1 + i)
theorem mem_allN {n : Nat} {e : Nat × Nat} : e ∈ allN n ↔ e.1 < e.2 ∧ e.2 < n := by
  unfold allN
  rw [List.mem_flatMap]
  constructor
  · rintro ⟨a, ha, h⟩
    obtain ⟨i, hi, rfl⟩ := List.mem_map.mp h
    have := List.mem_range.mp hi
    show a < a + 1 + i ∧ a + 1 + i < n
    omega
  · rintro ⟨h1, h2⟩
    refine ⟨e.1, List.mem_range.mpr (by omega), List.mem_map.mpr ⟨e.2 - (e.1 + 1), List.mem_range.mpr (by omega), ?_⟩⟩
    apply Prod.ext
    · rfl
    · show e.1 + 1 + (e.2 - (e.1 + 1)) = e.2; omega
theorem flat_ord {h : Nat → List (Nat × Nat)} (h1 : ∀ a e, e ∈ h a → e.1 = a) (h2 : ∀ a, (h a).Pairwise ltE) : ∀ {l : List Nat}, l.Pairwise (· < ·) → (l.flatMap h).Pairwise ltE
  | [], _ => by simp
  | a :: l, hl => by
    obtain ⟨l1, l2⟩ := List.pairwise_cons.mp hl
    rw [List.flatMap_cons, List.pairwise_append]
    refine ⟨h2 a, flat_ord h1 h2 l2, fun x hx y hy => ?_⟩
    obtain ⟨b, hb, hyb⟩ := List.mem_flatMap.mp hy
    have := h1 a x hx
    have := h1 b y hyb
    have := l1 b hb
    unfold ltE; omega
theorem allN_ord (n : Nat) : (allN n).Pairwise ltE := by
  refine flat_ord (fun a e he => ?_) (fun a => ?_) List.pairwise_lt_range
  · obtain ⟨i, _, rfl⟩ := List.mem_map.mp he; rfl
  · rw [List.pairwise_map]
    exact List.pairwise_lt_range.imp fun {i j} h => Or.inr ⟨rfl, by show a + 1 + i < a + 1 + j; omega⟩
theorem compl_eq (g : Kqg4.Graph) : (allN g.vertexCount).filter (fun e => !decide (e ∈ g.edges)) = (Kqg4.complement g).edges := by
  refine eq_of_lt ltE_as ltE_ir ((allN_ord _).filter _) ?_ fun x => ?_
  · refine flat_ord (fun a e he => ?_) (fun a => ?_) List.pairwise_lt_range
    · obtain ⟨i, _, rfl⟩ := List.mem_map.mp he; rfl
    · rw [List.pairwise_map]
      exact (List.pairwise_lt_range.filter _).imp fun {i j} h => Or.inr ⟨rfl, h⟩
  · rw [List.mem_filter, mem_allN]
    show _ ↔ x ∈ (List.range g.vertexCount).flatMap _
    rw [List.mem_flatMap]
    constructor
    · rintro ⟨⟨h1, h2⟩, h3⟩
      refine ⟨x.1, List.mem_range.mpr (by omega), List.mem_map.mpr ⟨x.2, List.mem_filter.mpr ⟨List.mem_range.mpr h2, ?_⟩, rfl⟩⟩
      simp only [Bool.and_eq_true, decide_eq_true_eq, Bool.not_eq_true']
      refine ⟨h1, ?_⟩
      have h4 : x ∉ g.edges := by simpa using h3
      cases c : g.edges.contains (x.1, x.2) with
      | false => rfl
      | true => exact absurd (List.contains_iff_mem.mp c) h4
    · rintro ⟨a, ha, h⟩
      obtain ⟨b, hb, rfl⟩ := List.mem_map.mp h
      obtain ⟨b1, b2⟩ := List.mem_filter.mp hb
      simp only [Bool.and_eq_true, decide_eq_true_eq, Bool.not_eq_true'] at b2
      refine ⟨⟨b2.1, List.mem_range.mp b1⟩, ?_⟩
      have : (a, b) ∉ g.edges := fun z => by rw [List.contains_iff_mem.mpr z] at b2; simp at b2
      simp [this]
end MG

-- part NJ
namespace MG
open K
open Kqg1 (Poly coefficient)
theorem tq_of {p : Poly} {l : List Int} (hp : Tr p) (hl : Tr (tq l)) (e : ∀ x, ev (tk p) x = ev (tz l) x) : p = tq l :=
  tr_ext hp hl fun i => by
    have := cf_ext e i
    rw [show tz l = tk (tq l) from rfl, cf_tk, cf_tk] at this
    exact ofQ_inj this
theorem mp_tr (n : Nat) {α : Type} [DecidableEq α] (E : List (Edge α)) : Tr (tq (mp n E)) := tq_tr (mp_len _ _) (by rw [mp_getD_top]; decide)
theorem ptp_tr (g : Kqg4.Graph) (f : Nat) (q : Path) : Tr (Kqg4.pathTreePolynomials g (f + 1) q).1 := by
  simp only [Kqg4.pathTreePolynomials]
  exact tr_add _ _
theorem ptree_is {g : Kqg4.Graph} {v : Nat} (hv : v < g.vertexCount) : (Kqg4.pathTreePolynomials g g.vertexCount [v]).1 = tq (mp (Kqg4.paths g v).length (pe g g.vertexCount [v])) := by
  have pk : POk g.vertexCount [v] := ⟨by simp, by simp, fun w hw => by rw [List.mem_singleton.mp hw]; exact hv⟩
  refine tq_of ?_ (mp_tr _ _) fun x => (ptp_is g x g.vertexCount [v] pk (by simp; omega)).1
  obtain ⟨f, hf⟩ : ∃ f, g.vertexCount = f + 1 := ⟨g.vertexCount - 1, by omega⟩
  have := ptp_tr g f [v]
  rw [← hf] at this
  exact this
/-! ### values -/
theorem eval_mul (a : Int) (b : Nat) (hb : 1 ≤ b) : ∀ l : List Int, ((hor a (scl (b : Int) l) : Int) : Rat) * (b : Rat) = ((b ^ l.length : Nat) : Rat) * Kqg1.evaluate (tq l) ((a : Rat) / (b : Rat))
  | [] => by
    show ((0 : Int) : Rat) * _ = _ * (0 : Rat)
    rw [Rat.mul_zero]
    exact Rat.zero_mul _
  | c :: l => by
    have ih := eval_mul a b hb l
    have b0 : (b : Rat) ≠ 0 := fun z => by
      have := Rat.natCast_eq_zero_iff.mp z
      omega
    have e1 : hor a (scl (b : Int) (c :: l)) = hor a (scl (b : Int) l) * a + c * ((b ^ l.length : Nat) : Int) := by
      show hor a (scl (b : Int) l) * a + c * (b : Int) ^ l.length = _
      push_cast; rfl
    have e2 : Kqg1.evaluate (tq (c :: l)) ((a : Rat) / (b : Rat)) = (c : Rat) + ((a : Rat) / (b : Rat)) * Kqg1.evaluate (tq l) ((a : Rat) / (b : Rat)) := rfl
    have e3 : ((b ^ (c :: l).length : Nat) : Rat) = ((b ^ l.length : Nat) : Rat) * (b : Rat) := by
      rw [List.length_cons, Nat.pow_succ, Rat.natCast_mul]
    rw [e1, e2, e3, Rat.intCast_add, Rat.intCast_mul, Rat.intCast_mul, Rat.intCast_natCast]
    generalize Kqg1.evaluate (tq l) ((a : Rat) / (b : Rat)) = Ev at *
    generalize ((b ^ l.length : Nat) : Rat) = Bn at *
    generalize ((hor a (scl (b : Int) l) : Int) : Rat) = Hh at *
    generalize (a : Rat) = A at *
    generalize (c : Rat) = Cc at *
    generalize (b : Rat) = B at *
    have k : B * (A / B) = A := by grind
    have : Bn * B * (Cc + A / B * Ev) = Bn * B * Cc + Bn * (B * (A / B)) * Ev := by grind
    rw [this, k]
    have : (Hh * A + Cc * Bn) * B = A * (Hh * B) + Cc * Bn * B := by grind
    rw [this, ih]; grind
theorem eval_is (a : Int) {b : Nat} (hb : 1 ≤ b) {l : List Int} {m : Nat} (hl : l.length = m + 1) : Kqg1.evaluate (tq l) (Kqg1.rational a b) = mkRat (hor a (scl (b : Int) l)) (b ^ m) := by
  have h := eval_mul a b hb l
  rw [hl, Nat.pow_succ, Rat.natCast_mul] at h
  have b0 : (b : Rat) ≠ 0 := fun z => by
    have := Rat.natCast_eq_zero_iff.mp z
    omega
  have bm : ((b ^ m : Nat) : Rat) ≠ 0 := fun z => by
    have := Rat.natCast_eq_zero_iff.mp z
    have := Nat.one_le_pow m b hb
    omega
  rw [Rat.mkRat_eq_div]
  show Kqg1.evaluate (tq l) ((a : Rat) / (b : Rat)) = _
  generalize Kqg1.evaluate (tq l) ((a : Rat) / (b : Rat)) = Ev at *
  generalize ((b ^ m : Nat) : Rat) = Bn at *
  generalize ((hor a (scl (b : Int) l) : Int) : Rat) = Hh at *
  generalize (b : Rat) = B at *
  grind
theorem eval_fields (a : Int) {b : Nat} (hb : 1 ≤ b) {l : List Int} {m : Nat} (hl : l.length = m + 1) :
    Kqg1.fraction (Kqg1.evaluate (tq l) (Kqg1.rational a b)) = [hor a (scl (b : Int) l) / ((Nat.gcd (hor a (scl (b : Int) l)).natAbs (b ^ m) : Nat) : Int), ((b ^ m / Nat.gcd (hor a (scl (b : Int) l)).natAbs (b ^ m) : Nat) : Int)] := by
  rw [eval_is a hb hl]
  have p := Nat.one_le_pow m b hb
  show [(mkRat _ _).num, ((mkRat _ _).den : Int)] = _
  rw [Rat.num_mkRat, Rat.den_mkRat, if_neg (by omega), if_neg (by omega), Nat.gcd_comm]
theorem mult_is {l : List Int} {rs : List K} (h : Sp (tz l) rs) (a : Int) {b : Nat} (hb : 1 ≤ b) : Kqg1.multiplicity (tq l) (Kqg1.rational a b) = zah (shf a ((scl (b : Int) l).length - 1) (scl (b : Int) l)) := by
  have hd : (0 : Int) < (b : Int) := by omega
  have r := (roots_from (h.scl hd) a (n := (scl (b : Int) l).length - 1) (by omega)).2
  rw [r, (atl_scale hd a rs).2]
  have t := (told_of (p := tq l) h).mult (Kqg1.rational a b)
  show Kqg1.multiplicityByChains _ _ = _
  rw [t]
  unfold Kqg1.rational
  rw [Rat.intCast_natCast]
theorem bound_is {l : List Int} {rs : List K} (h : Sp (tz l) rs) (b : Nat) :
    (Kqg1.countRoots (tq l) (.at (b : Rat)) .plusInfinity = 0 ∧ Kqg1.multiplicity (tq l) (b : Rat) = 0) ↔ chg (nz (shf (b : Int) (l.length - 1) l)) + zah (shf (b : Int) (l.length - 1) l) = 0 := by
  have T := told_of (p := tq l) h
  have r := (roots_from h (b : Int) (n := l.length - 1) (by omega)).1
  have e : ofQ ((b : Nat) : Rat) = ic (b : Int) := by unfold ic; rw [Rat.intCast_natCast]
  rw [r, atl_eq]
  show (Kqg1.countByChains _ _ _ = 0 ∧ Kqg1.multiplicityByChains _ _ = 0) ↔ _
  rw [T.up, T.mult, e]
  omega
theorem floor_is {l : List Int} {rs : List K} (h : Sp (tz l) rs) {k b : Nat} (hk : k < rs.length) {z : Int} (hz : IsFl rs ((2 ^ b : Nat) : Rat) k z) : z = Kqg1.rootFloor (tq l) k b := IsFl.one hz (rootFloor_is (p := tq l) h hk)
theorem real_is {l : List Int} {rs : List K} (h : Sp (tz l) rs) : Kqg1.isRealRooted (tq l) = true := realRooted_is (p := tq l) h
theorem GOK.eight {g : Kqg4.Graph} (h : GOK g) {rs : List K} (sp : Sp (tz (mp g.vertexCount g.edges)) rs) : ∀ r, r ∈ rs → -8 < r ∧ r < 8 := fun r hr => (graph_near sp h.n7 h.e12 r hr).eight
theorem wv_mp (g : Kqg4.Graph) (v : Nat) (n : Nat) : mp n (Kqg4.withoutVertex g v).edges = mp n (offv g.edges v) := mp_congr n fun k => wv_cnt k
theorem inter_is {g : Kqg4.Graph} (h : GOK g) {v : Nat} (hv : v < g.vertexCount) : Kqg2.interlaces (Kqg4.matchingPolynomial g) (Kqg4.matchingPolynomial (Kqg4.withoutVertex g v)) = true := by
  obtain ⟨n, hn⟩ : ∃ n, g.vertexCount = n + 1 := ⟨g.vertexCount - 1, by omega⟩
  obtain ⟨rs, qs, h1, h2, il⟩ := graph_il (n := n) (V := List.range g.vertexCount) (v := v) (GOK.valid h.ord) (by rw [List.length_range, hn]) (List.mem_range.mpr hv)
  have e2 : (Kqg4.withoutVertex g v).vertexCount = n := by show g.vertexCount - 1 = n; omega
  rw [mpoly_is, mpoly_is, e2, wv_mp, hn]
  refine interlaces_is (p := tq _) (q := tq _) h1 h2 ?_ il fun r hr => ?_
  · intro z
    have := h1.len
    rw [len_tz, mp_len, z] at this
    simp at this
  · have l12 : (offv g.edges v).length ≤ 12 := Nat.le_trans (List.length_filter_le _ _) h.e12
    have n7 := h.n7
    rcases List.mem_append.mp hr with m | m
    · exact graph_near h1 (by omega) h.e12 r m
    · exact graph_near h2 (by omega) l12 r m
end MG

-- part W1
set_option maxRecDepth 100000
set_option maxHeartbeats 4000000
namespace WK
open PySem PySem.Spec PyProof.Rows L2
/-! ## Data in the heap -/
mutual
inductive Rp (H : Hp) : V → PyData → Prop
  | bl (b : Bool) : Rp H (.bl b) (.bool b)
  | int (i : Int) : Rp H (.int i) (.int i)
  | lst {a : Addr} {vs : List V} {ds : List PyData} : H a = some (.lst vs) → RpA H vs ds → Rp H (.ref a) (.list ds)
  | tup {a : Addr} {vs : List V} {ds : List PyData} : H a = some (.tup vs) → RpA H vs ds → Rp H (.ref a) (.tuple ds)
inductive RpA (H : Hp) : List V → List PyData → Prop
  | nil : RpA H [] []
  | cons {v : V} {vs : List V} {d : PyData} {ds : List PyData} : Rp H v d → RpA H vs ds → RpA H (v :: vs) (d :: ds)
end
mutual
theorem Rp.mono {H H' : Hp} (e : Same H H') : ∀ (d : PyData) {v : V}, Rp H v d → Rp H' v d
  | .bool b, _, h => by cases h; exact .bl _
  | .int i, _, h => by cases h; exact .int _
  | .list ds, _, h => by
    cases h with
    | lst h1 h2 => exact .lst (e _ _ h1) (RpA.mono e ds h2)
  | .tuple ds, _, h => by
    cases h with
    | tup h1 h2 => exact .tup (e _ _ h1) (RpA.mono e ds h2)
  | .none, _, h => by cases h
  | .str _, _, h => by cases h
  | .dict _, _, h => by cases h
theorem RpA.mono {H H' : Hp} (e : Same H H') : ∀ (ds : List PyData) {vs : List V}, RpA H vs ds → RpA H' vs ds
  | [], _, h => by cases h; exact .nil
  | d :: ds, _, h => by
    cases h with
    | cons h1 h2 => exact .cons (Rp.mono e d h1) (RpA.mono e ds h2)
end
mutual
theorem Rp.dp {K : PySem.W.Frag} {H : Hp} : ∀ (d : PyData) {v : V}, Rp H v d → Dp K H v d
  | .bool b, _, h => by cases h; exact .bl _
  | .int i, _, h => by cases h; exact .int _
  | .list ds, _, h => by
    cases h with
    | lst h1 h2 => exact .lst (SqL.of h1) (RpA.dp ds h2)
  | .tuple ds, _, h => by
    cases h with
    | tup h1 h2 => exact .tup (SqT.of h1) (RpA.dp ds h2)
  | .none, _, h => by cases h
  | .str _, _, h => by cases h
  | .dict _, _, h => by cases h
theorem RpA.dp {K : PySem.W.Frag} {H : Hp} : ∀ (ds : List PyData) {vs : List V}, RpA H vs ds → DpAll K H vs ds
  | [], _, h => by cases h; exact .nil
  | d :: ds, _, h => by
    cases h with
    | cons h1 h2 => exact .cons (Rp.dp d h1) (RpA.dp ds h2)
end
theorem Rp.list {H : Hp} {v : V} {ds : List PyData} (h : Rp H v (.list ds)) : ∃ a vs, v = .ref a ∧ H a = some (.lst vs) ∧ RpA H vs ds := by
  cases h with
  | lst h1 h2 => exact ⟨_, _, rfl, h1, h2⟩
theorem Rp.tuple {H : Hp} {v : V} {ds : List PyData} (h : Rp H v (.tuple ds)) : ∃ a vs, v = .ref a ∧ H a = some (.tup vs) ∧ RpA H vs ds := by
  cases h with
  | tup h1 h2 => exact ⟨_, _, rfl, h1, h2⟩
theorem RpA.len {H : Hp} : ∀ {ds : List PyData} {vs : List V}, RpA H vs ds → vs.length = ds.length
  | [], _, h => by cases h; rfl
  | d :: ds, _, h => by
    cases h with
    | cons h1 h2 => rw [List.length_cons, List.length_cons, h2.len]
theorem RpA.get {H : Hp} : ∀ {ds : List PyData} {vs : List V} {i : Nat} {v : V}, RpA H vs ds → vs[i]? = some v → ∃ d, ds[i]? = some d ∧ Rp H v d
  | [], _, i, v, h, e => by cases h; simp at e
  | d :: ds, _, 0, v, h, e => by
    cases h with
    | cons h1 h2 => exact ⟨d, rfl, by rw [← Option.some.inj (show some _ = some v from e)]; exact h1⟩
  | d :: ds, _, i + 1, v, h, e => by
    cases h with
    | cons h1 h2 => exact h2.get (i := i) e
theorem RpA.at {H : Hp} : ∀ {ds : List PyData} {vs : List V} {i : Nat} {d : PyData}, RpA H vs ds → ds[i]? = some d → ∃ v, vs[i]? = some v ∧ Rp H v d
  | [], _, i, v, h, e => by cases h; simp at e
  | d :: ds, _, 0, v, h, e => by
    cases h with
    | cons h1 h2 => exact ⟨_, rfl, by rw [← Option.some.inj (show some d = some v from e)]; exact h1⟩
  | d :: ds, _, i + 1, v, h, e => by
    cases h with
    | cons h1 h2 => exact h2.at (i := i) e
theorem RpA.app {H : Hp} : ∀ {ds es : List PyData} {vs ws : List V}, RpA H vs ds → RpA H ws es → RpA H (vs ++ ws) (ds ++ es)
  | [], es, _, ws, h, g => by cases h; exact g
  | d :: ds, es, _, ws, h, g => by
    cases h with
    | cons h1 h2 => exact .cons h1 (h2.app g)
theorem RpA.snoc {H : Hp} {ds : List PyData} {vs : List V} {d : PyData} {v : V} (h : RpA H vs ds) (g : Rp H v d) : RpA H (vs ++ [v]) (ds ++ [d]) := h.app (.cons g .nil)
theorem RpA.ints {H : Hp} : ∀ {ns : List Int} {vs : List V}, RpA H vs (ns.map PyData.int) → vs = ns.map V.int
  | [], _, h => by cases h; rfl
  | n :: ns, _, h => by
    cases h with
    | cons h1 h2 =>
      cases h1
      rw [List.map_cons, ← h2.ints]
theorem RpA.of_ints {H : Hp} : ∀ (ns : List Int), RpA H (ns.map V.int) (ns.map PyData.int)
  | [] => .nil
  | n :: ns => .cons (.int n) (RpA.of_ints ns)
theorem RpA.bools {H : Hp} : ∀ {ns : List Bool} {vs : List V}, RpA H vs (ns.map PyData.bool) → vs = ns.map V.bl
  | [], _, h => by cases h; rfl
  | n :: ns, _, h => by
    cases h with
    | cons h1 h2 =>
      cases h1
      rw [List.map_cons, ← h2.bools]
/-! ### heaps -/
def hide (H : Hp) (D : Addr) : Hp := fun b => if b = D then none else H b
theorem hide_ne {H : Hp} {D b : Addr} (h : b ≠ D) : hide H D b = H b := if_neg h
theorem hide_at {H : Hp} {D : Addr} : hide H D D = none := if_pos rfl
theorem same_hide {H H' : Hp} {D : Addr} (n : H D = none) (e : Same H H') : Same H (hide H' D) := fun b o h => by
  rw [hide_ne (fun z => by rw [z, n] at h; cases h)]
  exact e b o h
theorem hide_same (H : Hp) (D : Addr) : Same (hide H D) H := fun b o h => by
  by_cases q : b = D
  · rw [q, hide_at] at h; cases h
  · rwa [hide_ne q] at h
theorem hide_mono {H H' : Hp} (D : Addr) (e : Same H H') : Same (hide H D) (hide H' D) := fun b o h => by
  by_cases q : b = D
  · rw [q, hide_at] at h; cases h
  · rw [hide_ne q] at h ⊢; exact e b o h
theorem hide_upd (H : Hp) (D : Addr) (o : HO) : hide (upd H D o) D = hide H D := by
  funext b
  by_cases q : b = D
  · rw [q, hide_at, hide_at]
  · rw [hide_ne q, hide_ne q, upd_ne q]
theorem hide_none {H : Hp} {D : Addr} (h : H D = none) : hide H D = H := by
  funext b
  by_cases q : b = D
  · rw [q, hide_at, h]
  · rw [hide_ne q]
theorem same_upd {H : Hp} {p : Addr} {o : HO} (h : H p = none) : Same H (upd H p o) := fun b u e => by
  rw [upd_ne (ne_of_none e h)]; exact e
theorem same_at {H H' : Hp} {p : Addr} {o : HO} (e : Same H H') (h : H p = none) : Same H (upd H' p o) := fun b u q => by
  rw [upd_ne (ne_of_none q h)]; exact e b u q
theorem hide_new {H : Hp} {D p : Addr} {o : HO} (h : p ≠ D) : hide (upd H p o) D = upd (hide H D) p o := by
  funext b
  by_cases q : b = D
  · rw [q, hide_at, upd_ne (Ne.symm h), hide_at]
  · rw [hide_ne q]
    by_cases r : b = p
    · rw [r, upd_same, upd_same]
    · rw [upd_ne r, upd_ne r, hide_ne q]
theorem small5 {n : Nat} (h : n ≤ 16000000) : n < sizeLine := Nat.lt_of_le_of_lt h (by decide)
theorem small5' {n : Nat} (h : n ≤ 16000000) : n ≤ sizeLine := Nat.le_of_lt (small5 h)
theorem take_snoc {α : Type} : ∀ {l : List α} {i : Nat} {x : α}, l[i]? = some x → l.take (i + 1) = l.take i ++ [x]
  | [], i, x, h => by simp at h
  | a :: l, 0, x, h => by
    have e : a = x := Option.some.inj h
    subst e; rfl
  | a :: l, i + 1, x, h => by
    have ih := take_snoc (l := l) (i := i) (x := x) h
    show a :: l.take (i + 1) = a :: l.take i ++ [x]
    rw [ih]; rfl
theorem map_get {α β : Type} {l : List α} {f : α → β} {i : Nat} {d : β} (h : (l.map f)[i]? = some d) : ∃ x, l[i]? = some x ∧ d = f x := by
  rw [List.getElem?_map] at h
  cases e : l[i]? with
  | none => rw [e] at h; cases h
  | some x => rw [e] at h; exact ⟨x, rfl, (Option.some.inj h).symm⟩
theorem ifb {c b : Bool} {A B : Prop} (e : c = b) (h1 : b = true → A) (h2 : b = false → B) : if c = true then A else B := by
  subst e
  cases c with
  | true => rw [if_pos rfl]; exact h1 rfl
  | false => rw [if_neg Bool.false_ne_true]; exact h2 rfl
/-! ### a comprehension over a list -/
theorem comp_list {K : PySem.W.Frag} {a : Addr} {xs : List V} {g : TG} {tt : TT} {te : TE} {vs : List Nat} {σ : L2.St} {H1 : Hp} {Qd : Addr → Hp → Prop} {α β : Type} (l : List α) (eA : α → PyData) (p : α → Bool) (f : α → β) (eB : β → PyData)
    (hS : SqL K H1 a xs) (hA : RpA H1 xs (l.map eA)) (hz : l.length ≤ 16000000)
    (hs : ∀ x y H D acc (C : V → Hp → Prop) (N : Hp → Prop), x ∈ l → Same H1 (hide H D) → H D = some (.lst acc) → Rp (hide H D) y (eA x) →
      (p x = true → ∀ z H4, Same H H4 → Rp (hide H4 D) z (eB (f x)) → C z H4) → (p x = false → ∀ H3, Same H H3 → N H3) →
      g y (wipe σ vs) H fun σ2 H2 => wipe σ2 vs = wipe σ vs ∧ tt σ2 H2 fun b H3 => if b = true then te σ2 H3 C else N H3)
    (hq : ∀ D H', H1 D = none → Same H1 H' → Rp H' (.ref D) (.list (((l.filter p).map f).map eB)) → Qd D H') :
    ∀ D, H1 D = none → ∃ W : Nat → Nat → Hp → Prop, (∃ m, W 0 m (upd H1 D (.lst []))) ∧ ∀ i m H, W i m H →
      ((Itl K a).stop i H ∧ Qd D H) ∨ ((Itl K a).go i H ∧ ∃ Nx : Hp → Prop, (∀ H', Nx H' → ∃ m', m' < m ∧ W (i + 1) m' H') ∧ ∀ x H', (Itl K a).yld i H x H' → g x (wipe σ vs) H' fun σ2 H2 => wipe σ2 vs = wipe σ vs ∧ tt σ2 H2 fun b H3 =>
        if b = true then te σ2 H3 fun y H4 => ∃ acc, H4 D = some (.lst acc) ∧ acc.length < sizeLine ∧ Nx (upd H4 D (.lst (acc ++ [y]))) else Nx H3) := by
  intro D hD
  have len := hA.len
  rw [List.length_map] at len
  refine lc_list (K := K) (a := a) (xs := xs) (Qd := fun H => Qd D H) (fun i H => Same H1 (hide H D) ∧ ∃ acc, H D = some (.lst acc) ∧ RpA (hide H D) acc ((((l.take i).filter p).map f).map eB)) ?_ ?_ ?_ ?_
  · refine ⟨by rw [hide_upd, hide_none hD]; exact Same.refl _, [], upd_same, ?_⟩
    exact .nil
  · rintro i H _ ⟨s, _⟩
    exact Same.seq (s.trans (hide_same H D)) hS
  · rintro i y H hy ⟨s, acc, hacc, hR⟩
    obtain ⟨d, hd, hr⟩ := hA.get hy
    obtain ⟨x, hx, rfl⟩ := map_get hd
    have tk := take_snoc hx
    refine hs x y H D acc _ _ (List.mem_of_getElem? hx) s hacc (hr.mono s) (fun pt z H4 s4 hz4 => ?_) (fun pf H3 s3 => ?_)
    · refine ⟨acc, s4 _ _ hacc, ?_, ?_, acc ++ [z], upd_same, ?_⟩
      · refine small5 (Nat.le_trans ?_ hz)
        rw [hR.len, List.length_map, List.length_map]
        exact Nat.le_trans (List.length_filter_le _ _) (List.length_take_le' _ _)
      · rw [hide_upd]; exact s.trans (hide_mono D s4)
      · rw [hide_upd, tk, List.filter_append, List.map_append, List.map_append]
        refine (hR.mono (hide_mono D s4)).app ?_
        rw [List.filter_cons, if_pos pt]
        exact .cons hz4 .nil
    · refine ⟨s.trans (hide_mono D s3), acc, s3 _ _ hacc, ?_⟩
      rw [tk, List.filter_append, List.filter_cons, if_neg (by rw [pf]; exact Bool.false_ne_true)]
      rw [List.filter_nil, List.append_nil]
      exact hR.mono (hide_mono D s3)
  · rintro H ⟨s, acc, hacc, hR⟩
    rw [len, List.take_length] at hR
    exact hq D H hD (s.trans (hide_same H D)) (.lst hacc (hR.mono (hide_same H D)))
/-- over a range -/
theorem comp_range {lo : Int} {n : Nat} {g : TG} {tt : TT} {te : TE} {vs : List Nat} {σ : L2.St} {H1 : Hp} {Qd : Addr → Hp → Prop} {β : Type} (p : Nat → Bool) (f : Nat → β) (eB : β → PyData) (hz : n ≤ 16000000)
    (hs : ∀ i H D acc (C : V → Hp → Prop) (N : Hp → Prop), i < n → Same H1 (hide H D) → H D = some (.lst acc) →
      (p i = true → ∀ z H4, Same H H4 → Rp (hide H4 D) z (eB (f i)) → C z H4) → (p i = false → ∀ H3, Same H H3 → N H3) →
      g (.int (lo + i)) (wipe σ vs) H fun σ2 H2 => wipe σ2 vs = wipe σ vs ∧ tt σ2 H2 fun b H3 => if b = true then te σ2 H3 C else N H3)
    (hq : ∀ D H', H1 D = none → Same H1 H' → Rp H' (.ref D) (.list ((((List.range n).filter p).map f).map eB)) → Qd D H') :
    ∀ D, H1 D = none → ∃ W : Nat → Nat → Hp → Prop, (∃ m, W 0 m (upd H1 D (.lst []))) ∧ ∀ i m H, W i m H →
      ((Itr lo n).stop i H ∧ Qd D H) ∨ ((Itr lo n).go i H ∧ ∃ Nx : Hp → Prop, (∀ H', Nx H' → ∃ m', m' < m ∧ W (i + 1) m' H') ∧ ∀ x H', (Itr lo n).yld i H x H' → g x (wipe σ vs) H' fun σ2 H2 => wipe σ2 vs = wipe σ vs ∧ tt σ2 H2 fun b H3 =>
        if b = true then te σ2 H3 fun y H4 => ∃ acc, H4 D = some (.lst acc) ∧ acc.length < sizeLine ∧ Nx (upd H4 D (.lst (acc ++ [y]))) else Nx H3) := by
  intro D hD
  refine lc_range (Qd := fun H => Qd D H) (fun i H => Same H1 (hide H D) ∧ ∃ acc, H D = some (.lst acc) ∧ RpA (hide H D) acc ((((List.range i).filter p).map f).map eB)) ?_ ?_ ?_
  · refine ⟨by rw [hide_upd, hide_none hD]; exact Same.refl _, [], upd_same, ?_⟩
    exact .nil
  · rintro i H hi ⟨s, acc, hacc, hR⟩
    refine hs i H D acc _ _ hi s hacc (fun pt z H4 s4 hz4 => ?_) (fun pf H3 s3 => ?_)
    · refine ⟨acc, s4 _ _ hacc, ?_, ?_, acc ++ [z], upd_same, ?_⟩
      · refine small5 (Nat.le_trans ?_ hz)
        rw [hR.len, List.length_map, List.length_map]
        refine Nat.le_trans (List.length_filter_le _ _) ?_
        rw [List.length_range]; omega
      · rw [hide_upd]; exact s.trans (hide_mono D s4)
      · rw [hide_upd, List.range_succ, List.filter_append, List.map_append, List.map_append]
        refine (hR.mono (hide_mono D s4)).app ?_
        rw [List.filter_cons, if_pos pt]
        exact .cons hz4 .nil
    · refine ⟨s.trans (hide_mono D s3), acc, s3 _ _ hacc, ?_⟩
      rw [List.range_succ, List.filter_append, List.filter_cons, if_neg (by rw [pf]; exact Bool.false_ne_true)]
      rw [List.filter_nil, List.append_nil]
      exact hR.mono (hide_mono D s3)
  · rintro H ⟨s, acc, hacc, hR⟩
    exact hq D H hD (s.trans (hide_same H D)) (.lst hacc (hR.mono (hide_same H D)))
end WK

-- part W2
set_option maxRecDepth 100000
set_option maxHeartbeats 4000000
namespace WK
open PySem PySem.Spec PyProof.Rows L2
/-! ## Defs and their calls -/
def topS (i : Nat) : Stmt := PySem.Challenge.pw_matchgraph_s01_answers.main.body.getD i (.Pass ⟨0, 0, 0, 0⟩)
/-- a def that stands in the top -/
structure Df (K : PySem.W.Frag) (mg : Str → Option Value) (x : Str) (st : Stmt) (ps : List Str) : Prop where
  ex : ∃ (f : Addr) (fd : FuncData), Fun K x x st f fd ∧ mg x = some (.ref f) ∧ Binds K fd ps []
/-- a def that keeps a promise -/
structure Cl (P : Program) (w : World) (K : PySem.W.Frag) (mg : Str → Option Value) (base : Heap) (CX : CXT) (k : Nat) (x : Str) (sp : Sp) : Prop where
  ex : ∃ (f : Addr) (fd : FuncData) (ps : List Str), FnOk P w K mg base CX k f fd ps sp ∧ mg x = some (.ref f) ∧ PySem.W.keepIn K (.ref f) = true ∧ Binds K fd ps []
/-- a method that keeps a promise -/
structure Mt (P : Program) (w : World) (K : PySem.W.Frag) (mg : Str → Option Value) (base : Heap) (k : Nat) (C : Addr) (m : Str) (sp : Sp) : Prop where
  ex : ∃ (f : Addr) (fd : FuncData) (ps : List Str), Cls K C ∧ Meth K C m f ∧ FnOk P w K mg base CX0 k f fd ps sp ∧ Binds K fd ps []
/-- a class that is made by its name -/
structure Mk1 (P : Program) (w : World) (K : PySem.W.Frag) (mg : Str → Option Value) (base : Heap) (k : Nat) (x : Str) (C : Addr) (sp : Sp) : Prop where
  ex : ∃ (f : Addr) (fd : FuncData) (ps : List Str), Mk K C f ∧ FnOk P w K mg base CX0 k f fd ps sp ∧ mg x = some (.ref C) ∧ Binds K fd ps []
section
variable {P : Program} {w : World} {K : PySem.W.Frag} {mg : Str → Option Value} {base : Heap}
theorem Df.cl {x : Str} {st : Stmt} {N ps : List Str} {k : Nat} {sp : Sp} (D : Df K mg x st ps) (S : FnScope N ps (defScope st)) (len : ∀ vs H Q E, sp vs H Q E → vs.length = ps.length)
    (hbody : ∀ (f : Addr) (cdv : Value) (A : Around) (outer : List Env) (s : Shared) (H : Hp) (vs : List V) (Q : VK) (E : XK), Room k (A.deeper (envOfC x (defScope st) s.heap.objs.size f cdv)) → sp vs H Q E →
      ∃ t, PSs (cxOf CX0 P w K mg base N x (defScope st) f cdv A outer s H E).nox (defBody st) t ∧ t { nx := fun _ H' => Q .non H', rt := Q } (start N vs) H) : Cl P w K mg base CX0 (k + 1) x sp := by
  obtain ⟨f, fd, F, m, b⟩ := D.ex
  exact ⟨f, fd, ps, F.ok S len (hbody f), m, F.kp, b⟩
theorem Df.clX {x : Str} {st : Stmt} {N ps : List Str} {k : Nat} {sp : Sp} (D : Df K mg x st ps) (S : FnScope N ps (defScope st)) (len : ∀ vs H Q E, sp vs H Q E → vs.length = ps.length)
    (hbody : ∀ (f : Addr) (cdv : Value) (A : Around) (outer : List Env) (s : Shared) (H : Hp) (vs : List V) (Q : VK) (E : XK), Room k (A.deeper (envOfC x (defScope st) s.heap.objs.size f cdv)) → sp vs H Q E →
      ∃ t, PSs (cxOf (L2.CX P w) P w K mg base N x (defScope st) f cdv A outer s H E) (defBody st) t ∧ t { nx := fun _ H' => Q .non H', rt := Q } (start N vs) H) : Cl P w K mg base (L2.CX P w) (k + 1) x sp := by
  obtain ⟨f, fd, F, m, b⟩ := D.ex
  exact ⟨f, fd, ps, F.okX S len (hbody f), m, F.kp, b⟩
end
/-- a method of the text -/
structure Dm (K : PySem.W.Frag) (C : Addr) (m qual : Str) (st : Stmt) (ps : List Str) : Prop where
  ex : ∃ (f : Addr) (fd : FuncData), Cls K C ∧ Meth K C m f ∧ Fun K m qual st f fd ∧ Binds K fd ps []
section
variable {P : Program} {w : World} {K : PySem.W.Frag} {mg : Str → Option Value} {base : Heap}
theorem Dm.mt {C : Addr} {m qual : Str} {st : Stmt} {N ps : List Str} {k : Nat} {sp : Sp} (D : Dm K C m qual st ps) (S : FnScope N ps (defScope st)) (len : ∀ vs H Q E, sp vs H Q E → vs.length = ps.length)
    (hbody : ∀ (f : Addr) (cdv : Value) (A : Around) (outer : List Env) (s : Shared) (H : Hp) (vs : List V) (Q : VK) (E : XK), Room k (A.deeper (envOfC qual (defScope st) s.heap.objs.size f cdv)) → sp vs H Q E →
      ∃ t, PSs (cxOf CX0 P w K mg base N qual (defScope st) f cdv A outer s H E).nox (defBody st) t ∧ t { nx := fun _ H' => Q .non H', rt := Q } (start N vs) H) : Mt P w K mg base (k + 1) C m sp := by
  obtain ⟨f, fd, c, me, F, b⟩ := D.ex
  exact ⟨f, fd, ps, c, me, F.ok S len (hbody f), b⟩
end
section
variable {X : Cx} {k j : Nat} {C : Addr} {x m : Str} {sp : Sp} {p pos apos : Pos} {e o : Expr} {es : List Expr} {ta : TE} {t : TA} {E : XK} {W : WX}
theorem pe_c0 (c : Cl X.prog X.w X.K X.mg X.base CX0 k x sp) (hr : Room j X.A) (hk : k ≤ j) (hg : Gl X x) (ha : PA X (e :: es) t)
    (hdb : (x == ("__debug__" : Str)) = false := by decide) (he : starEach (e :: es) X.env = (false, eval e X.env) :: starEach es X.env := by rfl) (hpl : (backTo pos (starEach es X.env)).any (·.1) = false := by rfl) :
    PE X (.Call (.Name x p) (e :: es) [] pos) (tCall sp [] E0 t) := by
  obtain ⟨f, fd, ps, F, hm, kp, b⟩ := c.ex
  exact pe_call F (hr.mono hk) hg hm kp b .nil pass0 ha hdb he hpl
/-- a def that may raise, in a def that may raise -/
theorem pe_cx (c : Cl X.prog X.w X.K X.mg X.base (L2.CX X.prog X.w) k x sp) (hr : Room j X.A) (hk : k ≤ j) (hg : Gl X x) (tk : Takes X (fun cls d _ H => E cls d H)) (ha : PA X (e :: es) t)
    (hdb : (x == ("__debug__" : Str)) = false := by decide) (he : starEach (e :: es) X.env = (false, eval e X.env) :: starEach es X.env := by rfl) (hpl : (backTo pos (starEach es X.env)).any (·.1) = false := by rfl) :
    PE X (.Call (.Name x p) (e :: es) [] pos) (tCall sp [] E t) := by
  obtain ⟨f, fd, ps, F, hm, kp, b⟩ := c.ex
  exact pe_call F (hr.mono hk) hg hm kp b .nil (passes_call tk fun _ _ _ _ h => h) ha hdb he hpl
theorem pe_m1 {pl : Sem Bool} (c : Mt X.prog X.w X.K X.mg X.base k C m sp) (hr : Room j X.A) (hk : k ≤ j) (he : PE X o ta) (ha : PA X (e :: es) t)
    (hst : starEach (e :: es) X.env = (false, eval e X.env) :: starEach es X.env := by rfl) (hpl : (backTo pos (starEach es X.env)).any (·.1) = false := by rfl)
    (ht : eval (.Call (.Attribute o m apos) (e :: es) [] pos) X.env = (do
      let ov ← eval o X.env
      standAt apos.atName
      let (f, first) ← holding [ov] (getMethod ov m pl)
      callWith pos f first (backTo pos (starEach (e :: es) X.env)) (backToKw pos (keywordEach [] X.env))) := by rfl) :
    PE X (.Call (.Attribute o m apos) (e :: es) [] pos) (tMeth C m sp [] E0 ta t) := by
  obtain ⟨f, fd, ps, c1, me, F, b⟩ := c.ex
  exact pe_meth he c1 me F (hr.mono hk) b .nil pass0 ha hst hpl ht
theorem pe_mz {pl : Sem Bool} (c : Mt X.prog X.w X.K X.mg X.base k C m sp) (hr : Room j X.A) (hk : k ≤ j) (he : PE X o ta)
    (ht : eval (.Call (.Attribute o m apos) [] [] pos) X.env = (do
      let ov ← eval o X.env
      standAt apos.atName
      let (f, first) ← holding [ov] (getMethod ov m pl)
      callWith pos f first (backTo pos (starEach [] X.env)) (backToKw pos (keywordEach [] X.env))) := by rfl) :
    PE X (.Call (.Attribute o m apos) [] [] pos) (tMeth C m sp [] E0 ta tNil) := by
  obtain ⟨f, fd, ps, c1, me, F, b⟩ := c.ex
  exact pe_meth0 he c1 me F (hr.mono hk) b .nil pass0 ht
theorem pe_g1 (c : Mk1 X.prog X.w X.K X.mg X.base k x C sp) (hr : Room j X.A) (hk : k + 1 ≤ j) (hg : Gl X x) (ha : PA X (e :: es) t)
    (hdb : (x == ("__debug__" : Str)) = false := by decide) (he : starEach (e :: es) X.env = (false, eval e X.env) :: starEach es X.env := by rfl) (hpl : (backTo pos (starEach es X.env)).any (·.1) = false := by rfl) :
    PE X (.Call (.Name x p) (e :: es) [] pos) (tMake C sp [] E0 t) := by
  obtain ⟨f, fd, ps, M, F, hm, b⟩ := c.ex
  exact pe_make M F (hr.mono hk) hg hm b .nil pass0 ha hdb he hpl
theorem pe_g0 (c : Mk1 X.prog X.w X.K X.mg X.base k x C sp) (hr : Room j X.A) (hk : k + 1 ≤ j) (hg : Gl X x) (hdb : (x == ("__debug__" : Str)) = false := by decide) :
    PE X (.Call (.Name x p) [] [] pos) (tMake C sp [] E0 tNil) := by
  obtain ⟨f, fd, ps, M, F, hm, b⟩ := c.ex
  exact pe_make0 M F (hr.mono hk) hg hm b .nil pass0 hdb
theorem pe_gc {v : V} (hg : Gl X x) (h : ∃ u, X.mg x = some u ∧ RelV v u) (hd : (x == ("__debug__" : Str)) = false := by decide) : PE X (.Name x pos) (tC v) := by
  obtain ⟨u, hm, r⟩ := h
  exact pe_glob hg hm r hd
end
theorem hu65 {A : Around} {k : Nat} (hr : Room k A) : A.units + 65 < cLine := by
  have := hr.un
  omega
/-! ### the same rules with the written part told (in a comprehension the context is another) -/
section
variable {X : Cx} {K : PySem.W.Frag}
theorem k_in (h : X.K = K) : OpR X (compareOp .In) (rIn K false) := by subst h; exact op_in_seq
theorem k_nin (h : X.K = K) : OpR X (compareOp .NotIn) (rIn K true) := by subst h; exact op_notIn_seq
theorem k_eqD (h : X.K = K) (hu : X.A.units + 64 < cLine) : OpR X (compareOp .Eq) (rEqD K) := by subst h; exact op_eqD hu
theorem k_neD (h : X.K = K) (hu : X.A.units + 64 < cLine) : OpR X (compareOp .NotEq) (rNeD K) := by subst h; exact op_neD hu
theorem k_inD (h : X.K = K) (hu : X.A.units + 65 < cLine) : OpR X (compareOp .In) (rInD K) := by subst h; exact op_inD hu
theorem k_ninD (h : X.K = K) (hu : X.A.units + 65 < cLine) : OpR X (compareOp .NotIn) (rNotInD K) := by subst h; exact op_notInD hu
theorem k_ixL (h : X.K = K) : IxR X (rIxL K) := by subst h; exact ix_list
theorem k_ixT (h : X.K = K) : IxR X (rIxT K) := by subst h; exact ix_tup
theorem k_len (h : X.K = K) : CallR X (.builtin "len") (fun xs H Q => ∃ p ys, xs = [.ref p] ∧ (SqL K H p ys ∨ SqT K H p ys) ∧ Q (.int ys.length) H) := by subst h; exact call_len_seq
theorem k_fld {e : Expr} {f : Str} {ta : TE} {pos : Pos} (h : X.K = K) (he : PE X e ta) (hb : attributeBase e f X.env (eval e X.env) = eval e X.env) : PE X (.Attribute e f pos) (tFld K ta f) := by subst h; exact pe_fld he hb
theorem k_cnt (h : X.K = K) : MtR X "list.count" (rCntI K) := by subst h; exact mt_lcount
end
/-- what the top leaves of names: no builtin is hidden; the constants -/
structure Nm (K : PySem.W.Frag) (mg : Str → Option Value) : Prop where
  n_len : mg "len" = none
  n_range : mg "range" = none
  n_sorted : mg "sorted" = none
  n_max : mg "max" = none
  n_min : mg "min" = none
  n_any : mg "any" = none
  n_all : mg "all" = none
  n_sum : mg "sum" = none
  n_abs : mg "abs" = none
  n_int : mg "int" = none
  n_list : mg "list" = none
  n_enumerate : mg "enumerate" = none
  n_zip : mg "zip" = none
  n_ValueError : mg "ValueError" = none
  vV : PySem.W.findCls K (.type "ValueError") (.type "type") "__init__" = some (.val (.builtin "ValueError.__init__"))
  c_NOT_THERE : ∃ u, mg "NOT_THERE" = some u ∧ RelV (.int (-2)) u
  c_NO_GRAPH : ∃ u, mg "NO_GRAPH" = some u ∧ RelV (.int (-11)) u
  c_EDGE_THERE : ∃ u, mg "EDGE_THERE" = some u ∧ RelV (.int (-17)) u
  c_OUT_OF_RANGE : ∃ u, mg "OUT_OF_RANGE" = some u ∧ RelV (.int (-22)) u
  c_FULL : ∃ u, mg "FULL" = some u ∧ RelV (.int (-28)) u
  c_NO_EDGE : ∃ u, mg "NO_EDGE" = some u ∧ RelV (.int (-33)) u
  c_TOO_LARGE : ∃ u, mg "TOO_LARGE" = some u ∧ RelV (.int (-75)) u
  c_FARTHEST : ∃ u, mg "FARTHEST" = some u ∧ RelV (.int 8) u
  c_MOST_VERTICES : ∃ u, mg "MOST_VERTICES" = some u ∧ RelV (.int 7) u
  c_MOST_EDGES : ∃ u, mg "MOST_EDGES" = some u ∧ RelV (.int 12) u
  c_MOST_NUMERATOR : ∃ u, mg "MOST_NUMERATOR" = some u ∧ RelV (.int 1000000) u
  c_MOST_DENOMINATOR : ∃ u, mg "MOST_DENOMINATOR" = some u ∧ RelV (.int 1000) u
  c_MOST_BITS : ∃ u, mg "MOST_BITS" = some u ∧ RelV (.int 20) u
  c_MOST_PATHS : ∃ u, mg "MOST_PATHS" = some u ∧ RelV (.int 16) u
  c_CREATE : ∃ u, mg "CREATE" = some u ∧ RelV (.int 0) u
end WK

-- part W3
set_option maxRecDepth 100000
set_option maxHeartbeats 4000000
namespace WK
open PySem PySem.Spec PyProof.Rows L2
/-! ## Graphs in the heap -/
abbrev Ed := Nat × Nat
def eE (e : Ed) : PyData := .tuple [.int (e.1 : Nat), .int (e.2 : Nat)]
theorem Rp.edge {H : Hp} {v : V} {e : Ed} (h : Rp H v (eE e)) : ∃ a, v = .ref a ∧ H a = some (.tup [.int (e.1 : Nat), .int (e.2 : Nat)]) := by
  obtain ⟨a, vs, rfl, h1, h2⟩ := Rp.tuple h
  have := RpA.ints (ns := [(e.1 : Int), (e.2 : Int)]) h2
  subst this
  exact ⟨a, rfl, h1⟩
theorem Rp.of_edge {H : Hp} {a : Addr} {e : Ed} (h : H a = some (.tup [.int (e.1 : Nat), .int (e.2 : Nat)])) : Rp H (.ref a) (eE e) := .tup h (RpA.of_ints [(e.1 : Int), (e.2 : Int)])
def GAt (C : Addr) (H : Hp) (v : V) (g : Kqg4.Graph) : Prop := ∃ a dx l, v = .ref a ∧ H a = some (.ins C dx [("vertex_count", .int (g.vertexCount : Nat)), ("edges", .ref l)]) ∧ Rp H (.ref l) (.list (g.edges.map eE))
theorem GAt.mono {C : Addr} {H H' : Hp} {v : V} {g : Kqg4.Graph} (s : Same H H') (h : GAt C H v g) : GAt C H' v g := by
  obtain ⟨a, dx, l, h1, h2, h3⟩ := h
  exact ⟨a, dx, l, h1, s _ _ h2, h3.mono s⟩
theorem lk_here {k : Str} {v : V} {r : List (Str × V)} : List.lookup k ((k, v) :: r) = some v := by
  have e : (k == k) = true := beq_self_eq_true k
  simp only [List.lookup, e]
theorem lk_past {k g : Str} {v : V} {r : List (Str × V)} (h : (k == g) = false) : List.lookup k ((g, v) :: r) = List.lookup k r := by
  simp only [List.lookup, h]
theorem lkV {x y : V} : List.lookup ("vertex_count" : Str) [(("vertex_count" : Str), x), (("edges" : Str), y)] = some x := lk_here
theorem lkE {x y : V} : List.lookup ("edges" : Str) [(("vertex_count" : Str), x), (("edges" : Str), y)] = some y := (lk_past (by decide +kernel)).trans lk_here
/-- no method's name is an attribute -/
theorem lkM {m : Str} {x y : V} (h1 : (m == ("vertex_count" : Str)) = false) (h2 : (m == ("edges" : Str)) = false) : List.lookup m [(("vertex_count" : Str), x), (("edges" : Str), y)] = none := (lk_past h1).trans ((lk_past h2).trans rfl)
structure GC (K : PySem.W.Frag) (C : Addr) : Prop where
  cl : Cls K C
  nV : NoAttr K C "vertex_count"
  nE : NoAttr K C "edges"
/-- small enough for all that is made of it -/
structure Sm (g : Kqg4.Graph) : Prop where
  n : g.vertexCount ≤ 1000
  e : g.edges.length ≤ 1000
def tch (v : Nat) (e : Ed) : Bool := decide (e.1 = v) || decide (e.2 = v)
theorem inV_edge (v : Nat) (e : Ed) : inV (.int (v : Nat)) [.int (e.1 : Nat), .int (e.2 : Nat)] = tch v e := by
  have h1 : ((e.1 : Int) == (v : Int)) = decide (e.1 = v) := by by_cases c : e.1 = v <;> simp [c] <;> omega
  have h2 : ((e.2 : Int) == (v : Int)) = decide (e.2 = v) := by by_cases c : e.2 = v <;> simp [c] <;> omega
  simp only [inV, List.any_cons, List.any_nil, eqV, h1, h2, Bool.or_false, tch]
/-- how many edges a vertex has -/
def dg (g : Kqg4.Graph) (v : Nat) : Nat := (g.edges.filter (tch v)).length
mutual
theorem Rp.ins {H : Hp} {p C dx : Addr} {fs : List (Str × V)} {o : HO} (hp : H p = some (.ins C dx fs)) : ∀ (d : PyData) {v : V}, Rp H v d → Rp (upd H p o) v d
  | .bool b, _, h => by cases h; exact .bl _
  | .int i, _, h => by cases h; exact .int _
  | .list ds, _, h => by
    cases h with
    | lst h1 h2 => exact .lst (by rw [upd_ne (ne_of h1 hp (by intro z; cases z))]; exact h1) (RpA.ins hp ds h2)
  | .tuple ds, _, h => by
    cases h with
    | tup h1 h2 => exact .tup (by rw [upd_ne (ne_of h1 hp (by intro z; cases z))]; exact h1) (RpA.ins hp ds h2)
  | .none, _, h => by cases h
  | .str _, _, h => by cases h
  | .dict _, _, h => by cases h
theorem RpA.ins {H : Hp} {p C dx : Addr} {fs : List (Str × V)} {o : HO} (hp : H p = some (.ins C dx fs)) : ∀ (ds : List PyData) {vs : List V}, RpA H vs ds → RpA (upd H p o) vs ds
  | [], _, h => by cases h; exact .nil
  | d :: ds, _, h => by
    cases h with
    | cons h1 h2 => exact .cons (Rp.ins hp d h1) (RpA.ins hp ds h2)
end
/-- edges do not lie where a list lies -/
theorem RpA.hideE {H : Hp} {F : Addr} {zs : List V} (hF : H F = some (.lst zs)) : ∀ {E : List Ed} {vs : List V}, RpA H vs (E.map eE) → RpA (hide H F) vs (E.map eE)
  | [], _, h => by cases h; exact .nil
  | e :: E, _, h => by
    cases h with
    | cons h1 h2 =>
      obtain ⟨a, rfl, ha⟩ := h1.edge
      exact .cons (Rp.of_edge (by rw [hide_ne (ne_of ha hF (by intro z; cases z))]; exact ha)) (RpA.hideE hF h2)
def leE (e f : Ed) : Prop := e.1 < f.1 ∨ (e.1 = f.1 ∧ e.2 ≤ f.2)
/-- the same edges in order -/
structure SortOf (E' E : List Ed) : Prop where
  perm : E'.Perm E
  ord : E'.Pairwise leE
def kOf (H : Hp) : V → Int × Int
  | .ref t => match H t with
    | some (.tup [.int i, .int j]) => (i, j)
    | _ => (0, 0)
  | _ => (0, 0)
def dec (H : Hp) (v : V) : Ed := ((kOf H v).1.toNat, (kOf H v).2.toNat)
theorem kOf_edge {H : Hp} {v : V} {e : Ed} (h : Rp H v (eE e)) : kOf H v = (((e.1 : Nat) : Int), ((e.2 : Nat) : Int)) ∧ dec H v = e := by
  obtain ⟨a, rfl, ha⟩ := h.edge
  have k : kOf H (.ref a) = (((e.1 : Nat) : Int), ((e.2 : Nat) : Int)) := by simp only [kOf, ha]
  exact ⟨k, by unfold dec; rw [k]; rfl⟩
theorem dec_all {H : Hp} : ∀ {E : List Ed} {vs : List V}, RpA H vs (E.map eE) → vs.map (dec H) = E ∧ ∀ v, v ∈ vs → Rp H v (eE (dec H v))
  | [], _, h => by cases h; exact ⟨rfl, fun v hv => by simp at hv⟩
  | e :: E, _, h => by
    cases h with
    | cons h1 h2 =>
      obtain ⟨i1, i2⟩ := dec_all h2
      have k := (kOf_edge h1).2
      refine ⟨by rw [List.map_cons, i1, k], fun v hv => ?_⟩
      rcases List.mem_cons.mp hv with q | q
      · rw [q, k]; exact h1
      · exact i2 v q
theorem RpA.of_dec {H : Hp} : ∀ {vs : List V}, (∀ v, v ∈ vs → Rp H v (eE (dec H v))) → RpA H vs ((vs.map (dec H)).map eE)
  | [], _ => .nil
  | v :: vs, h => .cons (h v List.mem_cons_self) (RpA.of_dec fun x hx => h x (List.mem_cons_of_mem _ hx))
theorem put_here {f : Str} {v x : V} {r : List (Str × V)} : putF f v ((f, x) :: r) = (f, v) :: r := if_pos rfl
theorem put_past {f g : Str} {v x : V} {r : List (Str × V)} (h : ¬ g = f) : putF f v ((g, x) :: r) = (g, x) :: putF f v r := if_neg h
theorem put_new {n l : V} : putF "edges" l (putF "vertex_count" n []) = [(("vertex_count" : Str), n), (("edges" : Str), l)] := (put_past (by decide +kernel)).trans rfl
theorem eE_shaped (e : Ed) : SeqAt.shaped (eE e) = true := by simp [eE, SeqAt.shaped, PyData.canLay0, PyData.canLayAll0, PyData.depth, PyData.depthAll]
theorem eEs_lay : ∀ E : List Ed, PyData.canLayAll0 (E.map eE) = true
  | [] => by simp [PyData.canLayAll0]
  | e :: E => by simp [PyData.canLayAll0, eEs_lay E, eE, PyData.canLay0]
theorem eEs_depth : ∀ E : List Ed, PyData.depthAll (E.map eE) ≤ 1
  | [] => by simp [PyData.depthAll]
  | e :: E => by
    have := eEs_depth E
    simp only [List.map_cons, PyData.depthAll, eE, PyData.depth]
    omega
theorem eEs_shaped (E : List Ed) : SeqAt.shaped (.list (E.map eE)) = true := by
  have := eEs_depth E
  unfold SeqAt.shaped
  rw [PyData.canLay0, eEs_lay, PyData.depth, Bool.true_and]
  exact decide_eq_true (by omega)
theorem eE_eqv (e f : Ed) : PyData.eqv (eE e) (eE f) = decide (e = f) := by
  obtain ⟨a, b⟩ := e
  obtain ⟨c, d⟩ := f
  have h : PyData.eqv (eE (a, b)) (eE (c, d)) = (((a : Int) == (c : Int)) && (((b : Int) == (d : Int)) && true)) := by simp only [eE, PyData.eqv, PyData.eqvAll]
  rw [h]
  by_cases q : a = c <;> by_cases r : b = d
  · subst q r; simp
  · have : ((b : Int) == (d : Int)) = false := beq_eq_false_iff_ne.mpr (by omega)
    simp [this, r]
  · have : ((a : Int) == (c : Int)) = false := beq_eq_false_iff_ne.mpr (by omega)
    simp [this, q]
  · have : ((a : Int) == (c : Int)) = false := beq_eq_false_iff_ne.mpr (by omega)
    simp [this, q]
section
variable {P : Program} {w : World} {K : PySem.W.Frag} {mg : Str → Option Value} {base : Heap} {C : Addr}
abbrev s_Graph_degree : Stmt := inClass (topS 1) 1
theorem sc_Graph_degree : FnScope ["self", "vertex", "edge"] ["self", "vertex"] (defScope s_Graph_degree) := ⟨rfl, rfl, rfl, by decide +kernel, rfl, by decide +kernel, by decide +kernel⟩
def spDegree (C : Addr) : Sp := fun vs H Q _ => ∃ (gv : V) (g : Kqg4.Graph) (v : Nat), vs = [gv, .int (v : Nat)] ∧ GAt C H gv g ∧ Sm g ∧ ∀ H', Same H H' → Q (.int (dg g v : Nat)) H'
theorem m_degree (T : Nm K mg) (G : GC K C) (D : Dm K C "degree" "Graph.degree" s_Graph_degree ["self", "vertex"]) : Mt P w K mg base 1 C "degree" (spDegree C) := by
  refine D.mt sc_Graph_degree (fun vs H Q E h => ?_) (fun f cdv A outer s H vs Q E hr h => ?_)
  · obtain ⟨gv, g, v, rfl, _⟩ := h; rfl
  refine ⟨_, (pss_one (ps_ret (pe_callB (k_len (K := K) rfl) rfl T.n_len (by decide +kernel) (pa_cons (pe_lc (own := [("edge", 2)]) rfl sc_Graph_degree.nd (pi_list (k_fld (K := K) rfl (pv 0) rfl)) (blkOk_by (N := ["self", "vertex", "edge"]) (sc := defScope s_Graph_degree) (by decide +kernel)) (fun _ _ _ _ _ => pg_name (i := 2) sc_Graph_degree.nd rfl (Or.inl rfl)) (fun _ _ _ _ _ => pts_one (pt_cmpR (k_in (K := K) rfl) (pv 1) (pv 2) (by rfl))) (fun _ _ _ _ _ => (pv 2))) pa_nil)))), ?_⟩
  obtain ⟨gv, g, v, rfl, ⟨a, dx, l, rfl, h1, h2⟩, sm, q⟩ := h
  obtain ⟨l', xs, e, hl, hA⟩ := h2.list
  cases e
  refine ⟨_, rfl, a, C, dx, _, _, rfl, h1, G.cl, G.nE, lkE, l, rfl, ⟨_, SqL.of hl⟩, ?_⟩
  refine comp_list g.edges eE (tch v) id eE (SqL.of hl) hA (Nat.le_trans sm.e (by decide)) (fun x y H2 D acc C2 N2 hx s2 hD hy pT pF => ?_) (fun D H2 nD s2 r => ?_)
  · obtain ⟨b, rfl, hb⟩ := hy.edge
    refine ⟨rfl, _, rfl, _, rfl, b, _, rfl, .inr (SqT.of (hide_same _ _ _ _ hb)), rfl, rfl, _, rfl, ?_⟩
    refine ifb (inV_edge v x) (fun c => ⟨_, rfl, pT c _ _ (Same.refl _) hy⟩) (fun c => pF c _ (Same.refl _))
  · obtain ⟨_, ys, e, hD, hR⟩ := r.list
    cases e
    refine ⟨_, _, rfl, .inl (SqL.of hD), ?_⟩
    have := hR.len
    rw [List.length_map, List.length_map] at this
    rw [this]
    exact q _ s2

/-! ### __init__ -/
abbrev s_Graph___init__ : Stmt := inClass (topS 1) 0
theorem sc_Graph___init__ : FnScope ["self", "vertex_count", "edges"] ["self", "vertex_count", "edges"] (defScope s_Graph___init__) := ⟨rfl, rfl, rfl, by decide +kernel, rfl, by decide +kernel, by decide +kernel⟩
def spGInit (C : Addr) : Sp := fun vs H Q _ => ∃ (p dx : Addr) (n : Nat) (ve : V) (E : List Ed), vs = [.ref p, .int (n : Nat), ve] ∧ H p = some (.ins C dx []) ∧ Rp H ve (.list (E.map eE)) ∧
  ∀ E' l H', SortOf E' E → (∀ b o, H b = some o → b ≠ p → H' b = some o) → GAt C H' (.ref p) ⟨n, E'⟩ → H' p = some (.ins C dx [("vertex_count", .int (n : Nat)), ("edges", .ref l)]) → H l = none → Q .non H'
theorem ok_GInit (T : Nm K mg) (G : GC K C) {f : Addr} {fd : FuncData} (F : Fun K "__init__" "Graph.__init__" s_Graph___init__ f fd) : FnOk P w K mg base CX0 1 f fd ["self", "vertex_count", "edges"] (spGInit C) := by
  refine F.ok sc_Graph___init__ (fun vs H Q E h => ?_) (fun cdv A outer s H vs Q E hr h => ?_)
  · obtain ⟨p, dx, n, ve, E, rfl, _⟩ := h; rfl
  refine ⟨_, (pss_cons (ps_fld (pv 0) (pv 1) rfl)
        (pss_one (ps_fld (pv 0) (pe_callB cr_sortedPO rfl T.n_sorted (by decide +kernel) (pa_cons (pv 2) pa_nil)) rfl))), ?_⟩
  obtain ⟨p, dx, n, ve, E, rfl, hp, hE, q⟩ := h
  refine ⟨_, rfl, _, rfl, p, C, dx, [], rfl, hp, G.cl, G.nV, (by show 0 < 1000; decide), ?_⟩
  have h1 := Rp.ins (o := HO.ins C dx (putF "vertex_count" (.int (n : Nat)) [])) hp _ hE
  obtain ⟨l, xs, rfl, hl, hA⟩ := h1.list
  obtain ⟨d1, d2⟩ := dec_all hA
  refine ⟨_, rfl, l, xs, kOf (upd H p (HO.ins C dx (putF "vertex_count" (.int (n : Nat)) []))), rfl, SqL.of hl, fun x hx => ?_, fun ys q2 hs hst hq2 => ?_⟩
  · have r := d2 x hx
    obtain ⟨t, rfl, ht⟩ := r.edge
    refine ⟨t, rfl, ?_⟩
    rw [(kOf_edge r).1]
    exact ht
  have np : p ≠ q2 := ne_of_none upd_same hq2
  have s2 := same_upd (o := HO.lst ys) hq2
  have hp2 : upd (upd H p (HO.ins C dx (putF "vertex_count" (.int (n : Nat)) []))) q2 (.lst ys) p = some (.ins C dx (putF "vertex_count" (.int (n : Nat)) [])) := s2 _ _ upd_same
  refine ⟨_, rfl, p, C, dx, _, rfl, hp2, G.cl, G.nE, (by show 1 < 1000; decide), ?_⟩
  have pm := hst.perm
  have dy : ∀ v, v ∈ ys → Rp (upd H p (HO.ins C dx (putF "vertex_count" (.int (n : Nat)) []))) v (eE (dec (upd H p (HO.ins C dx (putF "vertex_count" (.int (n : Nat)) []))) v)) := fun v hv => d2 v (pm.mem_iff.mp hv)
  refine q (ys.map (dec (upd H p (HO.ins C dx (putF "vertex_count" (.int (n : Nat)) []))))) q2 _ ⟨?_, ?_⟩ ?_ ⟨p, dx, q2, rfl, ?_, ?_⟩ (by rw [upd_same, put_new]) (by rw [upd_ne (Ne.symm np)] at hq2; exact hq2)
  · rw [← d1]; exact pm.map _
  · rw [List.pairwise_map]
    refine hs.imp_of_mem fun {x y} hx hy h => ?_
    have kx := kOf_edge (dy x hx)
    have ky := kOf_edge (dy y hy)
    have := SrtO.lexB_no.mp h
    rw [kx.1, ky.1] at this
    unfold leE
    simp only at this
    omega
  · intro b o hb hne
    rw [upd_ne hne]
    refine s2 _ _ ?_
    rw [upd_ne hne]; exact hb
  · rw [upd_same, put_new]
  · refine Rp.ins hp2 _ ?_
    exact .lst upd_same ((RpA.of_dec dy).mono s2)
theorem made_graph {H1 : Hp} {ve : V} {n : Nat} {E : List Ed} {Q : VK} (h : Rp H1 ve (.list (E.map eE))) (q : ∀ E' v H', SortOf E' E → Same H1 H' → GAt C H' v ⟨n, E'⟩ → Q v H') :
    ∀ x dx, H1 x = none → H1 dx = none → dx ≠ x → spGInit C (.ref x :: ([.int (n : Nat), ve] ++ [])) (upd (upd H1 dx (.own x)) x (.ins C dx [])) (fun v H2 => v = .non ∧ Q (.ref x) H2) E0 := by
  intro x dx nx nd ne
  have s1 : Same H1 (upd (upd H1 dx (.own x)) x (.ins C dx [])) := fun b o e => by
    rw [upd_ne (ne_of_none e nx), upd_ne (ne_of_none e nd)]; exact e
  refine ⟨x, dx, n, ve, E, rfl, upd_same, h.mono s1, fun E' l H' so k gt _ _ => ⟨rfl, q E' _ H' so (fun b o e => k b o (s1 b o e) (ne_of_none e nx)) gt⟩⟩
end
end WK

-- part W4
set_option maxRecDepth 100000
set_option maxHeartbeats 4000000
namespace WK
open PySem PySem.Spec PyProof.Rows L2
/-! ## Lists of ints -/
def LI (H : Hp) (v : V) (ns : List Int) : Prop := ∃ a, v = .ref a ∧ H a = some (.lst (ns.map V.int))
theorem LI.mono {H H' : Hp} {v : V} {ns : List Int} (s : Same H H') (h : LI H v ns) : LI H' v ns := by
  obtain ⟨a, e, h⟩ := h; exact ⟨a, e, s _ _ h⟩
theorem LI.rp {H : Hp} {v : V} {ns : List Int} (h : LI H v ns) : Rp H v (.list (ns.map PyData.int)) := by
  obtain ⟨a, rfl, h⟩ := h; exact .lst h (RpA.of_ints ns)
theorem LI.of {H : Hp} {v : V} {ns : List Int} (h : Rp H v (.list (ns.map PyData.int))) : LI H v ns := by
  obtain ⟨a, vs, rfl, h1, h2⟩ := h.list
  have := RpA.ints h2
  subst this
  exact ⟨a, rfl, h1⟩
theorem LI.ne {H : Hp} {a p : Addr} {ns : List Int} (h : LI H (.ref a) ns) (hp : H p = none) : a ≠ p := by
  obtain ⟨a', e, h⟩ := h
  cases e
  exact ne_of_none h hp
def mxd (g : Kqg4.Graph) : Nat := ((List.range g.vertexCount).map (dg g)).foldl max 0
theorem foldl_max_ge : ∀ (l : List Nat) (s : Nat), s ≤ l.foldl max s ∧ (∀ x, x ∈ l → x ≤ l.foldl max s)
  | [], s => ⟨Nat.le_refl _, fun x h => by simp at h⟩
  | a :: l, s => by
    obtain ⟨h1, h2⟩ := foldl_max_ge l (max s a)
    refine ⟨Nat.le_trans (Nat.le_max_left _ _) h1, fun x hx => ?_⟩
    rcases List.mem_cons.mp hx with q | q
    · rw [q]; exact Nat.le_trans (Nat.le_max_right _ _) h1
    · exact h2 x q
theorem foldl_max_in : ∀ (l : List Nat) (s : Nat), l.foldl max s = s ∨ l.foldl max s ∈ l
  | [], s => .inl rfl
  | a :: l, s => by
    rcases foldl_max_in l (max s a) with h | h
    · rw [List.foldl_cons, h]
      by_cases q : s ≤ a
      · exact .inr (by rw [Nat.max_eq_right q]; exact List.mem_cons_self)
      · exact .inl (Nat.max_eq_left (by omega))
    · exact .inr (List.mem_cons_of_mem _ h)
theorem max_is {l : List Nat} (hl : 0 < l.length) {m : Int} (h1 : m ∈ l.map (fun x : Nat => (x : Int))) (h2 : ∀ y, y ∈ l.map (fun x : Nat => (x : Int)) → y ≤ m) : m = ((l.foldl max 0 : Nat) : Int) := by
  obtain ⟨x, hx, rfl⟩ := List.mem_map.mp h1
  have a := (foldl_max_ge l 0).2 x hx
  rcases foldl_max_in l 0 with h | h
  · omega
  · have := h2 _ (List.mem_map.mpr ⟨_, h, rfl⟩)
    omega
theorem filtT {α : Type} (l : List α) : l.filter (fun _ => true) = l := List.filter_eq_self.mpr fun _ _ => rfl
theorem same_hu {H : Hp} {D : Addr} {o : HO} : Same (hide H D) (upd H D o) := by
  have h := hide_same (upd H D o) D
  rwa [hide_upd] at h
section
variable {P : Program} {w : World} {K : PySem.W.Frag} {mg : Str → Option Value} {base : Heap} {C : Addr}
abbrev s_Graph_greatest_degree : Stmt := inClass (topS 1) 2
theorem sc_Graph_greatest_degree : FnScope ["self", "vertex"] ["self"] (defScope s_Graph_greatest_degree) := ⟨rfl, rfl, rfl, by decide +kernel, rfl, by decide +kernel, by decide +kernel⟩
def spGreat (C : Addr) : Sp := fun vs H Q _ => ∃ (gv : V) (g : Kqg4.Graph), vs = [gv] ∧ GAt C H gv g ∧ Sm g ∧ 0 < g.vertexCount ∧ ∀ H', Same H H' → Q (.int (mxd g : Nat)) H'
theorem m_greatest_degree (T : Nm K mg) (G : GC K C) (m_degree : Mt P w K mg base 1 C "degree" (spDegree C)) (D : Dm K C "greatest_degree" "Graph.greatest_degree" s_Graph_greatest_degree ["self"]) : Mt P w K mg base 2 C "greatest_degree" (spGreat C) := by
  refine D.mt sc_Graph_greatest_degree (fun vs H Q E h => ?_) (fun f cdv A outer s H vs Q E hr h => ?_)
  · obtain ⟨gv, g, rfl, _⟩ := h; rfl
  refine ⟨_, (pss_one (ps_ret (pe_callB (cr_max rfl) rfl T.n_max (by decide +kernel) (pa_cons (pe_lc (own := [("vertex", 1)]) rfl sc_Graph_greatest_degree.nd (pi_range1 rfl T.n_range (pa_cons (k_fld (K := K) rfl (pv 0) rfl) pa_nil)) (blkOk_by (N := ["self", "vertex"]) (sc := defScope s_Graph_greatest_degree) (by decide +kernel)) (fun _ _ _ _ _ => pg_name (i := 1) sc_Graph_greatest_degree.nd rfl (Or.inl rfl)) (fun _ _ _ _ _ => pts_nil) (fun _ _ _ _ _ => (pe_m1 m_degree hr (by decide) (pv 0) (pa_cons (pv 1) pa_nil)))) pa_nil)))), ?_⟩
  obtain ⟨gv, g, rfl, gt, sm, pos, q⟩ := h
  obtain ⟨a, dx, l, rfl, h1, h2⟩ := id gt
  refine ⟨_, rfl, a, C, dx, _, _, rfl, h1, G.cl, G.nV, lkV, ?_⟩
  refine ⟨_, rfl, ?_⟩
  have en : ((g.vertexCount : Nat) : Int).toNat = g.vertexCount := Int.toNat_natCast _
  rw [en]
  refine ⟨by have := sm.n; omega, by have := sm.n; omega, ?_⟩
  refine comp_range (fun _ => true) (dg g) (fun n => .int (n : Nat)) (Nat.le_trans sm.n (by decide)) (fun i H2 D acc C2 N2 hi s2 hD pT pF => ?_) (fun D H2 nD s2 r => ?_)
  · refine ⟨rfl, ?_⟩
    have s3 := s2.trans (hide_same H2 D)
    refine ⟨_, rfl, a, dx, _, rfl, s3 _ _ h1, lkM (by decide +kernel) (by decide +kernel), ?_⟩
    refine ⟨_, rfl, _, g, i, by rw [Int.zero_add]; rfl, gt.mono s3, sm, fun H3 s4 => pT rfl _ _ s4 (.int _)⟩
  · have r2 := LI.of (ns := ((List.range g.vertexCount).map (dg g)).map (fun x : Nat => (x : Int))) (by
      rw [filtT] at r
      rw [List.map_map]; exact r)
    obtain ⟨b, e, hb⟩ := r2
    cases e
    refine ⟨D, ((List.range g.vertexCount).map (dg g)).map (fun x : Nat => (x : Int)), rfl, SqL.of hb, by simpa using pos, fun m hm hu => ?_⟩
    rw [max_is (by simpa using pos) hm hu]
    exact q _ s2
abbrev s_Graph_neighbours : Stmt := inClass (topS 1) 3
theorem sc_Graph_neighbours : FnScope ["self", "vertex", "edge"] ["self", "vertex"] (defScope s_Graph_neighbours) := ⟨rfl, rfl, rfl, by decide +kernel, rfl, by decide +kernel, by decide +kernel⟩
def nbs (g : Kqg4.Graph) (v : Nat) : List Int := (g.edges.filter (tch v)).map fun e => (e.1 : Int) + e.2 - v
def spNbs (C : Addr) : Sp := fun vs H Q _ => ∃ (gv : V) (g : Kqg4.Graph) (v : Nat), vs = [gv, .int (v : Nat)] ∧ GAt C H gv g ∧ Sm g ∧ ∀ r H', Same H H' → LI H' r (nbs g v) → Q r H'
theorem atI0 {α : Type} {x : α} {r : List α} : atI (x :: r) 0 = some x := atI_nat (j := 0) rfl
theorem atI1 {α : Type} {x y : α} {r : List α} : atI (x :: y :: r) 1 = some y := atI_nat (j := 1) rfl
theorem m_neighbours (T : Nm K mg) (G : GC K C) (D : Dm K C "neighbours" "Graph.neighbours" s_Graph_neighbours ["self", "vertex"]) : Mt P w K mg base 1 C "neighbours" (spNbs C) := by
  refine D.mt sc_Graph_neighbours (fun vs H Q E h => ?_) (fun f cdv A outer s H vs Q E hr h => ?_)
  · obtain ⟨gv, g, v, rfl, _⟩ := h; rfl
  refine ⟨_, (pss_one (ps_ret (pe_lc (own := [("edge", 2)]) rfl sc_Graph_neighbours.nd (pi_list (k_fld (K := K) rfl (pv 0) rfl)) (blkOk_by (N := ["self", "vertex", "edge"]) (sc := defScope s_Graph_neighbours) (by decide +kernel)) (fun _ _ _ _ _ => pg_name (i := 2) sc_Graph_neighbours.nd rfl (Or.inl rfl)) (fun _ _ _ _ _ => pts_one (pt_cmpR (k_in (K := K) rfl) (pv 1) (pv 2) (by rfl))) (fun _ _ _ _ _ => (pe_op op_sub (pe_op op_add (pe_ix (k_ixT (K := K) rfl) (pv 2) pe_int (fun _ _ => rfl)) (pe_ix (k_ixT (K := K) rfl) (pv 2) pe_int (fun _ _ => rfl))) (pv 1)))))), ?_⟩
  obtain ⟨gv, g, v, rfl, ⟨a, dx, l, rfl, h1, h2⟩, sm, q⟩ := h
  obtain ⟨l', xs, e, hl, hA⟩ := h2.list
  cases e
  refine ⟨_, rfl, a, C, dx, _, _, rfl, h1, G.cl, G.nE, lkE, l, rfl, ⟨_, SqL.of hl⟩, ?_⟩
  refine comp_list g.edges eE (tch v) (fun e : Ed => (e.1 : Int) + e.2 - v) PyData.int (SqL.of hl) hA (Nat.le_trans sm.e (by decide)) (fun x y H2 D acc C2 N2 hx s2 hD hy pT pF => ?_) (fun D H2 nD s2 r => ?_)
  · obtain ⟨b, rfl, hb⟩ := hy.edge
    have hb2 := hide_same _ _ _ _ hb
    refine ⟨rfl, _, rfl, _, rfl, b, _, rfl, .inr (SqT.of hb2), rfl, rfl, _, rfl, ?_⟩
    refine ifb (inV_edge v x) (fun c => ?_) (fun c => pF c _ (Same.refl _))
    refine ⟨_, rfl, b, _, _, _, rfl, rfl, SqT.of hb2, atI0, ?_⟩
    refine ⟨_, rfl, b, _, _, _, rfl, rfl, SqT.of hb2, atI1, ?_⟩
    refine ⟨_, _, rfl, rfl, _, rfl, _, _, rfl, rfl, ?_⟩
    exact pT c _ _ (Same.refl _) (.int _)
  · exact q _ _ s2 (LI.of r)
abbrev s_Graph_with_edge : Stmt := inClass (topS 1) 4
theorem sc_Graph_with_edge : FnScope ["self", "edge"] ["self", "edge"] (defScope s_Graph_with_edge) := ⟨rfl, rfl, rfl, by decide +kernel, rfl, by decide +kernel, by decide +kernel⟩
def spWith (C : Addr) : Sp := fun vs H Q _ => ∃ (gv ev : V) (g : Kqg4.Graph) (e : Ed), vs = [gv, ev] ∧ GAt C H gv g ∧ Rp H ev (eE e) ∧ Sm g ∧ ∀ E' r H', SortOf E' (g.edges ++ [e]) → Same H H' → GAt C H' r ⟨g.vertexCount, E'⟩ → Q r H'
theorem m_with_edge (T : Nm K mg) (G : GC K C) (mk_Graph : Mk1 P w K mg base 1 "Graph" C (spGInit C)) (D : Dm K C "with_edge" "Graph.with_edge" s_Graph_with_edge ["self", "edge"]) : Mt P w K mg base 3 C "with_edge" (spWith C) := by
  refine D.mt sc_Graph_with_edge (fun vs H Q E h => ?_) (fun f cdv A outer s H vs Q E hr h => ?_)
  · obtain ⟨gv, ev, g, e, rfl, _⟩ := h; rfl
  refine ⟨_, (pss_one (ps_ret (pe_g1 mk_Graph hr (by decide) rfl (pa_cons (k_fld (K := K) rfl (pv 0) rfl) (pa_cons (pe_op op_cat (k_fld (K := K) rfl (pv 0) rfl) (pe_lst (pa_cons (pv 1) pa_nil))) pa_nil))))), ?_⟩
  obtain ⟨gv, ev, g, e, rfl, ⟨a, dx, l, rfl, h1, h2⟩, he, sm, q⟩ := h
  obtain ⟨l', xs, e2, hl, hA⟩ := h2.list
  cases e2
  refine ⟨_, rfl, a, C, dx, _, _, rfl, h1, G.cl, G.nV, lkV, ?_⟩
  refine ⟨_, rfl, a, C, dx, _, _, rfl, h1, G.cl, G.nE, lkE, ?_⟩
  refine ⟨_, rfl, small5' (by show 1 ≤ 16000000; decide), fun p hp => ?_⟩
  have np := ne_of_none hl hp
  have len : xs.length ≤ 1000 := by rw [hA.len, List.length_map]; exact sm.e
  refine ⟨l, p, xs, [ev], rfl, rfl, by rw [upd_ne np]; exact hl, upd_same, small5' (by rw [List.length_singleton]; omega), fun p2 hp2 => ?_⟩
  have s1 : Same H (upd (upd H p (.lst [ev])) p2 (.lst (xs ++ [ev]))) := (same_upd hp).trans (same_upd hp2)
  have hr2 : Rp (upd (upd H p (.lst [ev])) p2 (.lst (xs ++ [ev]))) (.ref p2) (.list ((g.edges ++ [e]).map eE)) := by
    rw [List.map_append]
    exact .lst upd_same ((hA.mono s1).snoc (he.mono s1))
  exact made_graph hr2 fun E' v H' so s2 gt => q E' v H' so (s1.trans s2) gt
abbrev s_Graph_without_edge : Stmt := inClass (topS 1) 5
theorem sc_Graph_without_edge : FnScope ["self", "edge", "other"] ["self", "edge"] (defScope s_Graph_without_edge) := ⟨rfl, rfl, rfl, by decide +kernel, rfl, by decide +kernel, by decide +kernel⟩
def spWithoutE (C : Addr) : Sp := fun vs H Q _ => ∃ (gv ev : V) (g : Kqg4.Graph) (e : Ed), vs = [gv, ev] ∧ GAt C H gv g ∧ Rp H ev (eE e) ∧ Sm g ∧ ∀ E' r H', SortOf E' (g.edges.filter fun f => !decide (f = e)) → Same H H' → GAt C H' r ⟨g.vertexCount, E'⟩ → Q r H'
theorem m_without_edge (T : Nm K mg) (G : GC K C) (mk_Graph : Mk1 P w K mg base 1 "Graph" C (spGInit C)) (D : Dm K C "without_edge" "Graph.without_edge" s_Graph_without_edge ["self", "edge"]) : Mt P w K mg base 3 C "without_edge" (spWithoutE C) := by
  refine D.mt sc_Graph_without_edge (fun vs H Q E h => ?_) (fun f cdv A outer s H vs Q E hr h => ?_)
  · obtain ⟨gv, ev, g, e, rfl, _⟩ := h; rfl
  refine ⟨_, (pss_one (ps_ret (pe_g1 mk_Graph hr (by decide) rfl (pa_cons (k_fld (K := K) rfl (pv 0) rfl) (pa_cons (pe_lc (own := [("other", 2)]) rfl sc_Graph_without_edge.nd (pi_list (k_fld (K := K) rfl (pv 0) rfl)) (blkOk_by (N := ["self", "edge", "other"]) (sc := defScope s_Graph_without_edge) (by decide +kernel)) (fun _ _ _ _ _ => pg_name (i := 2) sc_Graph_without_edge.nd rfl (Or.inl rfl)) (fun _ _ _ _ _ => pts_one (pt_cmpR (k_neD (K := K) rfl hr.units) (pv 2) (pv 1) (nomark _))) (fun _ _ _ _ _ => (pv 2))) pa_nil))))), ?_⟩
  obtain ⟨gv, ev, g, e, rfl, ⟨a, dx, l, rfl, h1, h2⟩, he, sm, q⟩ := h
  obtain ⟨l', xs, e2, hl, hA⟩ := h2.list
  cases e2
  refine ⟨_, rfl, a, C, dx, _, _, rfl, h1, G.cl, G.nV, lkV, ?_⟩
  refine ⟨_, rfl, a, C, dx, _, _, rfl, h1, G.cl, G.nE, lkE, l, rfl, ⟨_, SqL.of hl⟩, ?_⟩
  refine comp_list g.edges eE (fun f => !decide (f = e)) id eE (SqL.of hl) hA (Nat.le_trans sm.e (by decide)) (fun x y H2 D acc C2 N2 hx s2 hD hy pT pF => ?_) (fun D H2 nD s2 r => ?_)
  · have s3 := s2.trans (hide_same H2 D)
    refine ⟨rfl, _, rfl, _, rfl, _, _, (hy.mono (hide_same _ _)).dp, (he.mono s3).dp, eE_shaped _, eE_shaped _, _, rfl, ?_⟩
    refine ifb (by rw [eE_eqv]) (fun c => ⟨_, rfl, pT c _ _ (Same.refl _) hy⟩) (fun c => pF c _ (Same.refl _))
  · rw [List.map_id] at r
    exact made_graph r fun E' v H' so s4 gt => q E' v H' so (s2.trans s4) gt
end
end WK

-- part W5
set_option maxRecDepth 100000
set_option maxHeartbeats 4000000
namespace WK
open PySem PySem.Spec PyProof.Rows L2
theorem k_tup {X : Cx} {K : PySem.W.Frag} {es : List Expr} {k : Nat} {t : TGs} {n : Nat} {pos : Pos} (e : X.K = K) (hc : X.calm = true) (h : PGs X es t)
    (hn : (assignEach es X.env).length = n := by rfl) (hst : (assignEach es X.env).findIdx? (·.1) = none := by rfl) : PG X (.Tuple es k pos) (gTup K n t) := by
  subst e; exact pg_tup hc h hn hst
section
variable {P : Program} {w : World} {K : PySem.W.Frag} {mg : Str → Option Value} {base : Heap} {C : Addr}
abbrev s_edge_of : Stmt := topS 2
theorem sc_edge_of : FnScope ["a", "b"] ["a", "b"] (defScope s_edge_of) := ⟨rfl, rfl, rfl, by decide +kernel, rfl, by decide +kernel, by decide +kernel⟩
def spEdgeOf : Sp := fun vs H Q _ => ∃ a b : Nat, vs = [.int (a : Nat), .int (b : Nat)] ∧ ∀ r H', Same H H' → Rp H' r (eE (min a b, max a b)) → Q r H'
theorem d_edge_of (T : Nm K mg) (D : Df K mg "edge_of" s_edge_of ["a", "b"]) : Cl P w K mg base CX0 1 "edge_of" spEdgeOf := by
  refine D.cl sc_edge_of (fun vs H Q E h => ?_) (fun f cdv A outer s H vs Q E hr h => ?_)
  · obtain ⟨a, b, rfl, _⟩ := h; rfl
  refine ⟨_, (pss_one (ps_ret (pe_tup (pa_cons (pe_callB (call_min2 rfl) rfl T.n_min (by decide +kernel) (pa_cons (pv 0) (pa_cons (pv 1) pa_nil))) (pa_cons (pe_callB (call_max2 rfl) rfl T.n_max (by decide +kernel) (pa_cons (pv 0) (pa_cons (pv 1) pa_nil))) pa_nil))))), ?_⟩
  obtain ⟨a, b, rfl, q⟩ := h
  refine ⟨_, rfl, _, rfl, _, _, rfl, ?_⟩
  refine ⟨_, rfl, _, rfl, _, _, rfl, small5' (by show 2 ≤ 16000000; decide), fun p hp => q _ _ (same_upd hp) (Rp.of_edge ?_)⟩
  rw [upd_same]
  have e1 : (if (b : Int) < (a : Int) then (b : Int) else (a : Int)) = ((min a b : Nat) : Int) := by split <;> omega
  have e2 : (if (b : Int) > (a : Int) then (b : Int) else (a : Int)) = ((max a b : Nat) : Int) := by split <;> omega
  rw [e1, e2]
abbrev s_lowered : Stmt := topS 3
theorem sc_lowered : FnScope ["vertex", "gone"] ["vertex", "gone"] (defScope s_lowered) := ⟨rfl, rfl, rfl, by decide +kernel, rfl, by decide +kernel, by decide +kernel⟩
def lo (gone v : Nat) : Nat := if gone < v then v - 1 else v
def spLowered : Sp := fun vs H Q _ => ∃ a b : Nat, vs = [.int (a : Nat), .int (b : Nat)] ∧ Q (.int (lo b a : Nat)) H
theorem d_lowered (T : Nm K mg) (D : Df K mg "lowered" s_lowered ["vertex", "gone"]) : Cl P w K mg base CX0 1 "lowered" spLowered := by
  refine D.cl sc_lowered (fun vs H Q E h => ?_) (fun f cdv A outer s H vs Q E hr h => ?_)
  · obtain ⟨a, b, rfl, _⟩ := h; rfl
  refine ⟨_, (pss_one (ps_ret (pe_ifExp (pt_cmpR (op_gt) (pv 0) (pv 1) (nomark _)) (pe_op op_sub (pv 0) pe_int) (pv 0)))), ?_⟩
  obtain ⟨a, b, rfl, q⟩ := h
  refine ⟨_, rfl, _, rfl, _, _, rfl, rfl, _, rfl, ?_⟩
  refine ifb rfl (fun c => ?_) (fun c => ?_)
  · refine ⟨_, rfl, _, _, rfl, rfl, ?_⟩
    have c2 := of_decide_eq_true c
    have e : (a : Int) - 1 = ((lo b a : Nat) : Int) := by unfold lo; rw [if_pos (by omega)]; omega
    show Q (.int ((a : Int) - 1)) H
    rw [e]; exact q
  · refine ⟨_, rfl, ?_⟩
    have c2 := of_decide_eq_false c
    have e : (a : Int) = ((lo b a : Nat) : Int) := by unfold lo; rw [if_neg (by omega)]
    show Q (.int (a : Int)) H
    rw [e]; exact q
abbrev s_all_edges : Stmt := topS 4
theorem sc_all_edges : FnScope ["vertex_count", "found", "a", "b"] ["vertex_count"] (defScope s_all_edges) := ⟨rfl, rfl, rfl, by decide +kernel, rfl, by decide +kernel, by decide +kernel⟩
def rowE (n a : Nat) : List Ed := (List.range (n - (a + 1))).map fun i => (a, a + 1 + i)
def allE (n : Nat) : List Ed := (List.range n).flatMap (rowE n)
theorem rows_len (n : Nat) : ∀ i, ((List.range i).flatMap (rowE n)).length ≤ i * n
  | 0 => by simp
  | i + 1 => by
    have := rows_len n i
    rw [List.range_succ, List.flatMap_append, List.length_append, Nat.succ_mul]
    have : ([i].flatMap (rowE n)).length ≤ n := by simp [rowE]
    omega
def spAllE : Sp := fun vs H Q _ => ∃ n : Nat, vs = [.int (n : Nat)] ∧ n ≤ 500 ∧ ∀ r H', Same H H' → Rp H' r (.list ((allE n).map eE)) → Q r H'
theorem d_all_edges (T : Nm K mg) (D : Df K mg "all_edges" s_all_edges ["vertex_count"]) : Cl P w K mg base CX0 1 "all_edges" spAllE := by
  refine D.cl sc_all_edges (fun vs H Q E h => ?_) (fun f cdv A outer s H vs Q E hr h => ?_)
  · obtain ⟨n, rfl, _⟩ := h; rfl
  refine ⟨_, (pss_cons (ps_set (i := 1) sc_all_edges.nd rfl (Or.inl rfl) (pe_lst pa_nil))
        (pss_cons (ps_for PassesOwn.never rfl (pi_range1 rfl T.n_range (pa_cons (pv 0) pa_nil)) (pg_name (i := 2) sc_all_edges.nd rfl (Or.inr rfl)) (pss_one (ps_expr (pe_bm PySem.F.plainAttrs_list PySem.F.slot_list_extend PySem.F.type_list_extend mt_extend (pv 1) (pa_cons (pe_lc (own := [("b", 3)]) rfl sc_all_edges.nd (pi_range2 rfl T.n_range (pa_cons (pe_op op_add (pv 2) pe_int) (pa_cons (pv 0) pa_nil))) (blkOk_by (N := ["vertex_count", "found", "a", "b"]) (sc := defScope s_all_edges) (by decide +kernel)) (fun _ _ _ _ _ => pg_name (i := 3) sc_all_edges.nd rfl (Or.inl rfl)) (fun _ _ _ _ _ => pts_nil) (fun _ _ _ _ _ => (pe_tup (pa_cons (pv 2) (pa_cons (pv 3) pa_nil))))) pa_nil)))))
        (pss_one (ps_ret (pv 1))))), ?_⟩
  obtain ⟨n, rfl, hn, q⟩ := h
  refine ⟨Nat.zero_le _, fun F hF => ?_⟩
  refine ⟨_, rfl, _, rfl, ?_⟩
  have en : ((n : Nat) : Int).toNat = n := Int.toNat_natCast _
  rw [en]
  refine ⟨by omega, by omega, ?_⟩
  refine for_range (fun i σ H2 => ∃ w0 w1, σ = [some (.int (n : Nat)), some (.ref F), w0, w1] ∧ Same H H2 ∧ ∃ zs, H2 F = some (.lst zs) ∧ RpA (hide H2 F) zs (((List.range i).flatMap (rowE n)).map eE)) ?_ ?_ ?_
  · exact ⟨none, none, rfl, same_upd hF, [], upd_same, .nil⟩
  · rintro i σ H2 hi ⟨w0, w1, rfl, s2, zs, hz, hR⟩
    refine ⟨_, rfl, .inl ⟨rfl, _, SqL.of hz⟩, ?_⟩
    refine ⟨_, rfl, _, _, rfl, rfl, _, rfl, ?_⟩
    have en2 : (((n : Nat) : Int) - ((0 : Int) + (i : Int) + 1)).toNat = n - (i + 1) := by omega
    refine ⟨_, _, rfl, ⟨by omega, by omega, by omega, by omega⟩, ?_⟩
    rw [en2]
    refine comp_range (fun _ => true) (fun j => ((i, i + 1 + j) : Ed)) eE (by omega) (fun j H3 D acc C2 N2 hj s3 hD pT pF => ?_) (fun D H3 nD s3 r => ?_)
    · refine ⟨rfl, _, rfl, _, rfl, small5' (by show 2 ≤ 16000000; decide), fun p hp => pT rfl _ _ (same_upd hp) (Rp.of_edge ?_)⟩
      have np : p ≠ D := fun z => by rw [z, hD] at hp; cases hp
      rw [hide_ne np, upd_same]
      have e1 : (0 : Int) + (i : Int) = ((i : Nat) : Int) := by omega
      have e2 : ((i : Nat) : Int) + 1 + (j : Int) = ((i + 1 + j : Nat) : Int) := by omega
      rw [e1, e2]
    · rw [filtT] at r
      obtain ⟨D', ys, e, hD, hY⟩ := r.list
      cases e
      have hz3 := s3 _ _ hz
      have lz := hR.len
      have ly := hY.len
      rw [List.length_map] at lz ly
      rw [List.length_map, List.length_range] at ly
      have l1 := rows_len n i
      have l2 : i * n ≤ 500 * 500 := Nat.mul_le_mul (by omega) (by omega)
      refine ⟨F, D, zs, ys, rfl, rfl, hz3, hD, small5' (by omega), ?_⟩
      have k1 : Same H (upd H3 F (.lst (zs ++ ys))) := fun b o e => by
        rw [upd_ne (ne_of_none e hF)]; exact s3 _ _ (s2 _ _ e)
      refine ⟨_, _, rfl, k1, zs ++ ys, upd_same, ?_⟩
      rw [hide_upd, List.range_succ, List.flatMap_append, List.map_append, List.flatMap_singleton]
      exact (hR.mono (hide_mono F s3)).app (hY.hideE hz3)
  · rintro σ H2 ⟨w0, w1, rfl, s2, zs, hz, hR⟩
    exact ⟨_, rfl, q _ _ s2 (.lst hz (hR.mono (hide_same _ _)))⟩
abbrev s_Graph_without_vertex : Stmt := inClass (topS 1) 6
theorem sc_Graph_without_vertex : FnScope ["self", "vertex", "left", "edge", "a", "b"] ["self", "vertex"] (defScope s_Graph_without_vertex) := ⟨rfl, rfl, rfl, by decide +kernel, rfl, by decide +kernel, by decide +kernel⟩
def outV (g : Kqg4.Graph) (v : Nat) : List Ed := (g.edges.filter fun e => !tch v e).map fun e => (lo v e.1, lo v e.2)
def spWithoutV (C : Addr) : Sp := fun vs H Q _ => ∃ (gv : V) (g : Kqg4.Graph) (v : Nat), vs = [gv, .int (v : Nat)] ∧ GAt C H gv g ∧ Sm g ∧ 0 < g.vertexCount ∧ ∀ E' r H', SortOf E' (outV g v) → Same H H' → GAt C H' r ⟨g.vertexCount - 1, E'⟩ → Q r H'
theorem m_without_vertex (T : Nm K mg) (G : GC K C) (d_lowered : Cl P w K mg base CX0 1 "lowered" spLowered) (mk_Graph : Mk1 P w K mg base 1 "Graph" C (spGInit C)) (D : Dm K C "without_vertex" "Graph.without_vertex" s_Graph_without_vertex ["self", "vertex"]) : Mt P w K mg base 3 C "without_vertex" (spWithoutV C) := by
  refine D.mt sc_Graph_without_vertex (fun vs H Q E h => ?_) (fun f cdv A outer s H vs Q E hr h => ?_)
  · obtain ⟨gv, g, v, rfl, _⟩ := h; rfl
  refine ⟨_, (pss_cons (ps_setLc (i := 2) (own := [("edge", 3)]) rfl sc_Graph_without_vertex.nd rfl rfl (sw_true rfl rfl rfl (by decide +kernel)) (pi_list (k_fld (K := K) rfl (pv 0) rfl)) (blkOk_by (N := ["self", "vertex", "left", "edge", "a", "b"]) (sc := defScope s_Graph_without_vertex) (by decide +kernel)) (fun _ _ _ _ _ => pg_name (i := 3) sc_Graph_without_vertex.nd rfl (Or.inl rfl)) (fun _ _ _ _ _ => pts_one (pt_cmpR (k_nin (K := K) rfl) (pv 1) (pv 3) (by rfl))) (fun _ _ _ _ _ => (pv 3)))
        (pss_one (ps_ret (pe_g1 mk_Graph hr (by decide) rfl (pa_cons (pe_op op_sub (k_fld (K := K) rfl (pv 0) rfl) pe_int) (pa_cons (pe_lc (own := [("a", 4), ("b", 5)]) rfl sc_Graph_without_vertex.nd (pi_list (pv 2)) (blkOk_by (N := ["self", "vertex", "left", "edge", "a", "b"]) (sc := defScope s_Graph_without_vertex) (by decide +kernel)) (fun _ _ _ _ _ => k_tup (K := K) (n := 2) rfl rfl (pgs_cons (pg_name (i := 4) sc_Graph_without_vertex.nd rfl (Or.inl rfl)) (pgs_cons (pg_name (i := 5) sc_Graph_without_vertex.nd rfl (Or.inl rfl)) pgs_nil))) (fun _ _ _ _ _ => pts_nil) (fun _ _ _ _ _ => (pe_tup (pa_cons (pe_c0 d_lowered hr (by decide) rfl (pa_cons (pv 4) (pa_cons (pv 1) pa_nil))) (pa_cons (pe_c0 d_lowered hr (by decide) rfl (pa_cons (pv 5) (pa_cons (pv 1) pa_nil))) pa_nil))))) pa_nil)))))), ?_⟩
  obtain ⟨gv, g, v, rfl, ⟨a, dx, l, rfl, h1, h2⟩, sm, pos, q⟩ := h
  obtain ⟨l', xs, e, hl, hA⟩ := h2.list
  cases e
  refine ⟨_, rfl, a, C, dx, _, _, rfl, h1, G.cl, G.nE, lkE, l, rfl, ⟨_, SqL.of hl⟩, ?_⟩
  refine comp_list g.edges eE (fun e => !tch v e) id eE (SqL.of hl) hA (Nat.le_trans sm.e (by decide)) (fun x y H2 D acc C2 N2 hx s2 hD hy pT pF => ?_) (fun D H2 nD s2 r => ?_)
  · obtain ⟨b, rfl, hb⟩ := hy.edge
    have hb2 := hide_same _ _ _ _ hb
    refine ⟨rfl, _, rfl, _, rfl, b, _, rfl, .inr (SqT.of hb2), rfl, rfl, _, rfl, ?_⟩
    refine ifb (by rw [← inV_edge]; rfl) (fun c => ⟨_, rfl, pT c _ _ (Same.refl _) hy⟩) (fun c => pF c _ (Same.refl _))
  rw [List.map_id] at r
  obtain ⟨l2, ys, e, hl2, hA2⟩ := r.list
  cases e
  refine ⟨_, rfl, a, C, dx, _, _, rfl, s2 _ _ h1, G.cl, G.nV, lkV, ?_⟩
  refine ⟨_, _, rfl, rfl, ?_⟩
  refine ⟨_, rfl, _, rfl, ⟨_, SqL.of hl2⟩, ?_⟩
  refine comp_list (g.edges.filter fun e => !tch v e) eE (fun _ => true) (fun e => ((lo v e.1, lo v e.2) : Ed)) eE (SqL.of hl2) hA2 (Nat.le_trans (List.length_filter_le _ _) (Nat.le_trans sm.e (by decide))) (fun x y H3 D3 acc C2 N2 hx s3 hD hy pT pF => ?_) (fun D3 H3 nD3 s3 r3 => ?_)
  · obtain ⟨b, rfl, hb⟩ := hy.edge
    have hb2 := hide_same _ _ _ _ hb
    refine ⟨b, _, rfl, SqT.of hb2, rfl, _, _, rfl, _, _, rfl, rfl, rfl, ?_⟩
    refine ⟨_, rfl, _, rfl, x.1, v, rfl, _, rfl, _, rfl, x.2, v, rfl, small5' (by show 2 ≤ 16000000; decide), fun p hp => pT rfl _ _ (same_upd hp) (Rp.of_edge ?_)⟩
    have np : p ≠ D3 := fun z => by rw [z, hD] at hp; cases hp
    rw [hide_ne np, upd_same]
  · rw [filtT] at r3
    have e1 : ((g.vertexCount : Nat) : Int) - 1 = ((g.vertexCount - 1 : Nat) : Int) := by omega
    have z := made_graph (C := C) (n := g.vertexCount - 1) (Q := Q) r3 fun E' v H' so s4 gt => q E' v H' so ((s2.trans s3).trans s4) gt
    rw [← e1] at z
    exact z
abbrev s_Graph_complement : Stmt := inClass (topS 1) 7
theorem sc_Graph_complement : FnScope ["self", "edge"] ["self"] (defScope s_Graph_complement) := ⟨rfl, rfl, rfl, by decide +kernel, rfl, by decide +kernel, by decide +kernel⟩
def compE (g : Kqg4.Graph) : List Ed := (allE g.vertexCount).filter fun e => !decide (e ∈ g.edges)
theorem allE_len {n : Nat} (h : n ≤ 500) : (allE n).length ≤ 250000 := Nat.le_trans (rows_len n n) (Nat.mul_le_mul h h)
theorem any_mem (E : List Ed) (e : Ed) : ((E.map eE).any fun z => PyData.eqv z (eE e)) = decide (e ∈ E) := by
  rw [List.any_map]
  have : ((fun z => PyData.eqv z (eE e)) ∘ eE) = fun f => decide (f = e) := by funext f; exact eE_eqv f e
  rw [this]
  by_cases h : e ∈ E
  · rw [decide_eq_true h, List.any_eq_true]; exact ⟨e, h, by simp⟩
  · rw [decide_eq_false h, List.any_eq_false]; intro x hx; simp; intro z; exact h (z ▸ hx)
def spCompl (C : Addr) : Sp := fun vs H Q _ => ∃ (gv : V) (g : Kqg4.Graph), vs = [gv] ∧ GAt C H gv g ∧ Sm g ∧ g.vertexCount ≤ 500 ∧ ∀ E' r H', SortOf E' (compE g) → Same H H' → GAt C H' r ⟨g.vertexCount, E'⟩ → Q r H'
theorem m_complement (T : Nm K mg) (G : GC K C) (d_all_edges : Cl P w K mg base CX0 1 "all_edges" spAllE) (mk_Graph : Mk1 P w K mg base 1 "Graph" C (spGInit C)) (D : Dm K C "complement" "Graph.complement" s_Graph_complement ["self"]) : Mt P w K mg base 3 C "complement" (spCompl C) := by
  refine D.mt sc_Graph_complement (fun vs H Q E h => ?_) (fun f cdv A outer s H vs Q E hr h => ?_)
  · obtain ⟨gv, g, rfl, _⟩ := h; rfl
  refine ⟨_, (pss_one (ps_ret (pe_g1 mk_Graph hr (by decide) rfl (pa_cons (k_fld (K := K) rfl (pv 0) rfl) (pa_cons (pe_lc (own := [("edge", 1)]) rfl sc_Graph_complement.nd (pi_list (pe_c0 d_all_edges hr (by decide) rfl (pa_cons (k_fld (K := K) rfl (pv 0) rfl) pa_nil))) (blkOk_by (N := ["self", "edge"]) (sc := defScope s_Graph_complement) (by decide +kernel)) (fun _ _ _ _ _ => pg_name (i := 1) sc_Graph_complement.nd rfl (Or.inl rfl)) (fun _ _ _ _ _ => pts_one (pt_cmpR (k_ninD (K := K) rfl (hu65 hr)) (pv 1) (k_fld (K := K) rfl (pv 0) rfl) (by rfl))) (fun _ _ _ _ _ => (pv 1))) pa_nil))))), ?_⟩
  obtain ⟨gv, g, rfl, ⟨a, dx, l, rfl, h1, h2⟩, sm, le, q⟩ := h
  refine ⟨_, rfl, a, C, dx, _, _, rfl, h1, G.cl, G.nV, lkV, ?_⟩
  refine ⟨_, rfl, a, C, dx, _, _, rfl, h1, G.cl, G.nV, lkV, ?_⟩
  refine ⟨g.vertexCount, rfl, le, fun r H1 s1 hr1 => ?_⟩
  obtain ⟨l2, ys, rfl, hl2, hA2⟩ := hr1.list
  refine ⟨l2, rfl, ⟨_, SqL.of hl2⟩, ?_⟩
  refine comp_list (allE g.vertexCount) eE (fun e => !decide (e ∈ g.edges)) id eE (SqL.of hl2) hA2 (Nat.le_trans (allE_len le) (by decide)) (fun x y H2 D acc C2 N2 hx s2 hD hy pT pF => ?_) (fun D H2 nD s2 r => ?_)
  · have s3 := s2.trans (hide_same H2 D)
    refine ⟨rfl, _, rfl, _, rfl, a, C, dx, _, _, rfl, s3 _ _ (s1 _ _ h1), G.cl, G.nE, lkE, ?_⟩
    refine ⟨_, _, (hy.mono (hide_same _ _)).dp, ((h2.mono s1).mono s3).dp, eE_shaped _, eEs_shaped _, _, rfl, ?_⟩
    refine ifb (by rw [any_mem]) (fun c => ⟨_, rfl, pT c _ _ (Same.refl _) hy⟩) (fun c => pF c _ (Same.refl _))
  · rw [List.map_id] at r
    exact made_graph r fun E' v H' so s4 gt => q E' v H' so ((s1.trans s2).trans s4) gt
end
end WK

-- part W6
set_option maxRecDepth 100000
set_option maxHeartbeats 4000000
namespace WK
open PySem PySem.Spec PyProof.Rows L2
/-! ## Matchings -/
/-- a comprehension over any walk -/
theorem comp_it {J : It} {n : Nat} {G : Hp → Prop} {Y : Nat → Hp → V → Hp → Prop} {g : TG} {tt : TT} {te : TE} {vs : List Nat} {σ : L2.St} {H1 : Hp} {Qd : Addr → Hp → Prop} {β : Type} (w : Walk J n G Y) (f : Nat → β) (eB : β → PyData) (hG : ∀ H, Same H1 H → G H) (hz : n ≤ 16000000)
    (hs : ∀ i x H H' D acc (C : V → Hp → Prop) (N : Hp → Prop), i < n → Same H1 (hide H D) → H D = some (.lst acc) → Y i H x H' →
      (∀ z H4, Same H H4 → Rp (hide H4 D) z (eB (f i)) → C z H4) →
      g x (wipe σ vs) H' fun σ2 H2 => wipe σ2 vs = wipe σ vs ∧ tt σ2 H2 fun b H3 => if b = true then te σ2 H3 C else N H3)
    (hq : ∀ D H', H1 D = none → Same H1 H' → Rp H' (.ref D) (.list (((List.range n).map f).map eB)) → Qd D H') :
    ∀ D, H1 D = none → ∃ W : Nat → Nat → Hp → Prop, (∃ m, W 0 m (upd H1 D (.lst []))) ∧ ∀ i m H, W i m H →
      (J.stop i H ∧ Qd D H) ∨ (J.go i H ∧ ∃ Nx : Hp → Prop, (∀ H', Nx H' → ∃ m', m' < m ∧ W (i + 1) m' H') ∧ ∀ x H', J.yld i H x H' → g x (wipe σ vs) H' fun σ2 H2 => wipe σ2 vs = wipe σ vs ∧ tt σ2 H2 fun b H3 =>
        if b = true then te σ2 H3 fun y H4 => ∃ acc, H4 D = some (.lst acc) ∧ acc.length < sizeLine ∧ Nx (upd H4 D (.lst (acc ++ [y]))) else Nx H3) := by
  intro D hD
  refine lc_it w (Qd := fun H => Qd D H) (fun i H => Same H1 (hide H D) ∧ ∃ acc, H D = some (.lst acc) ∧ RpA (hide H D) acc (((List.range i).map f).map eB)) ?_ ?_ ?_ ?_
  · refine ⟨by rw [hide_upd, hide_none hD]; exact Same.refl _, [], upd_same, .nil⟩
  · rintro i H _ ⟨s, _⟩
    exact hG H (s.trans (hide_same H D))
  · rintro i x H H' hi ⟨s, acc, hacc, hR⟩ y
    refine hs i x H H' D acc _ _ hi s hacc y (fun z H4 s4 hz4 => ?_)
    refine ⟨acc, s4 _ _ hacc, ?_, ?_, acc ++ [z], upd_same, ?_⟩
    · refine small5 (Nat.le_trans ?_ hz)
      rw [hR.len, List.length_map, List.length_map, List.length_range]; omega
    · rw [hide_upd]; exact s.trans (hide_mono D s4)
    · rw [hide_upd, List.range_succ, List.map_append, List.map_append]
      exact (hR.mono (hide_mono D s4)).app (.cons hz4 .nil)
  · rintro H ⟨s, acc, hacc, hR⟩
    exact hq D H hD (s.trans (hide_same H D)) (.lst hacc (hR.mono (hide_same H D)))
def eM (m : List Ed) : PyData := .list (m.map eE)
abbrev mts (E : List Ed) : List (List Ed) := MG.mts E
theorem mts_len : ∀ E : List Ed, (mts E).length ≤ 2 ^ E.length
  | [] => Nat.le_refl _
  | e :: E => by
    have ih := mts_len E
    show (mts E ++ ((mts E).filter _).map _).length ≤ _
    rw [List.length_append, List.length_map, List.length_cons, Nat.pow_succ]
    exact Nat.le_trans (Nat.add_le_add ih (Nat.le_trans (List.length_filter_le _ _) ih)) (by omega)
theorem mts_size {E : List Ed} (h : E.length ≤ 21) : (mts E).length ≤ 16000000 := Nat.le_trans (mts_len E) (Nat.le_trans (Nat.pow_le_pow_right (by decide) h) (by decide))
theorem apart_is (e : Ed) (m : List Ed) : (!((m.map fun f => tch e.1 f || tch e.2 f).any id)) = m.all (MG.apart e) := by
  rw [List.any_map]
  induction m with
  | nil => rfl
  | cons f m ih =>
    rw [List.any_cons, List.all_cons, ← ih, Bool.not_or]
    congr 1
    simp only [Function.comp, id, tch, MG.apart, Bool.not_or]
    have (x y : Nat) : (!decide (x = y)) = (x != y) := by by_cases h : x = y <;> simp [h]
    rw [this, this, this, this]
    cases (f.1 != e.1) <;> cases (f.1 != e.2) <;> cases (f.2 != e.1) <;> cases (f.2 != e.2) <;> rfl
section
variable {P : Program} {w : World} {K : PySem.W.Frag} {mg : Str → Option Value} {base : Heap} {C : Addr}
abbrev s_is_apart : Stmt := topS 6
theorem sc_is_apart : FnScope ["edge", "matching", "other"] ["edge", "matching"] (defScope s_is_apart) := ⟨rfl, rfl, rfl, by decide +kernel, rfl, by decide +kernel, by decide +kernel⟩
def spApart : Sp := fun vs H Q _ => ∃ (ev mv : V) (e : Ed) (m : List Ed), vs = [ev, mv] ∧ Rp H ev (eE e) ∧ Rp H mv (eM m) ∧ m.length ≤ 1000 ∧ ∀ H', Same H H' → Q (.bl (m.all (MG.apart e))) H'
theorem d_is_apart (T : Nm K mg) (D : Df K mg "is_apart" s_is_apart ["edge", "matching"]) : Cl P w K mg base CX0 1 "is_apart" spApart := by
  refine D.cl sc_is_apart (fun vs H Q E h => ?_) (fun f cdv A outer s H vs Q E hr h => ?_)
  · obtain ⟨_, _, _, _, rfl, _⟩ := h; rfl
  refine ⟨_, (pss_one (ps_ret (pe_not (pe_callB (cr_any rfl) rfl T.n_any (by decide +kernel) (pa_cons (pe_lc (own := [("other", 2)]) rfl sc_is_apart.nd (pi_list (pv 1)) (blkOk_by (N := ["edge", "matching", "other"]) (sc := defScope s_is_apart) (by decide +kernel)) (fun _ _ _ _ _ => pg_name (i := 2) sc_is_apart.nd rfl (Or.inl rfl)) (fun _ _ _ _ _ => pts_nil) (fun _ _ _ _ _ => (pe_or (pe_cmpR (k_in (K := K) rfl) (pe_ix (k_ixT (K := K) rfl) (pv 0) pe_int (fun _ _ => rfl)) (pv 2) (by rfl)) (pe_one (pe_cmpR (k_in (K := K) rfl) (pe_ix (k_ixT (K := K) rfl) (pv 0) pe_int (fun _ _ => rfl)) (pv 2) (by rfl)))))) pa_nil))))), ?_⟩
  obtain ⟨ev, mv, e, m, rfl, he, hm, lm, q⟩ := h
  obtain ⟨a, rfl, ha⟩ := he.edge
  obtain ⟨b, xs, rfl, hb, hA⟩ := hm.list
  refine ⟨_, rfl, b, rfl, ⟨_, SqL.of hb⟩, ?_⟩
  refine comp_list m eE (fun _ => true) (fun f => tch e.1 f || tch e.2 f) PyData.bool (SqL.of hb) hA (Nat.le_trans lm (by decide)) (fun x y H2 D acc C2 N2 hx s2 hD hy pT pF => ?_) (fun D H2 nD s2 r => ?_)
  · obtain ⟨c, rfl, hc⟩ := hy.edge
    have hc2 := hide_same _ _ _ _ hc
    have ha2 := hide_same _ _ _ _ (s2 _ _ ha)
    refine ⟨rfl, ?_⟩
    refine ⟨_, rfl, a, _, _, _, rfl, rfl, SqT.of ha2, atI0, ?_⟩
    refine ⟨_, rfl, c, _, rfl, .inr (SqT.of hc2), rfl, rfl, _, rfl, ?_⟩
    refine ifb (inV_edge e.1 x) (fun d => ?_) (fun d => ?_)
    · refine pT rfl _ _ (Same.refl _) ?_
      rw [d]; exact .bl _
    · refine ⟨_, rfl, a, _, _, _, rfl, rfl, SqT.of ha2, atI1, ?_⟩
      refine ⟨_, rfl, c, _, rfl, .inr (SqT.of hc2), rfl, rfl, pT rfl _ _ (Same.refl _) ?_⟩
      rw [d, Bool.false_or]
      show Rp _ (.bl (inV (.int (e.2 : Nat)) [.int (x.1 : Nat), .int (x.2 : Nat)])) _
      rw [inV_edge]
      exact .bl _
  · rw [filtT] at r
    obtain ⟨D', ys, e2, hD, hR⟩ := r.list
    cases e2
    have := RpA.bools hR
    subst this
    refine ⟨D, _, rfl, SqL.of hD, _, rfl, ?_⟩
    rw [apart_is]
    exact q _ s2
abbrev s_all_matchings : Stmt := topS 7
theorem sc_all_matchings : FnScope ["graph", "found", "edge", "matching"] ["graph"] (defScope s_all_matchings) := ⟨rfl, rfl, rfl, by decide +kernel, rfl, by decide +kernel, by decide +kernel⟩
def spMts (C : Addr) : Sp := fun vs H Q _ => ∃ (gv : V) (g : Kqg4.Graph), vs = [gv] ∧ GAt C H gv g ∧ g.edges.length ≤ 21 ∧ ∀ r H', Same H H' → Rp H' r (.list ((mts g.edges).map eM)) → Q r H'
theorem mts_sub : ∀ (E : List Ed) (m : List Ed), m ∈ mts E → m.length ≤ E.length
  | [], m, h => by
    have : m = [] := by simpa [mts, MG.mts] using h
    rw [this]; exact Nat.le_refl _
  | e :: E, m, h => by
    have h2 : m ∈ mts E ++ ((mts E).filter fun m => m.all (MG.apart e)).map fun m => e :: m := h
    rcases List.mem_append.mp h2 with h | h
    · have := mts_sub E m h; simp; omega
    · obtain ⟨m2, h3, rfl⟩ := List.mem_map.mp h
      have := mts_sub E m2 (List.mem_filter.mp h3).1
      simp; omega
theorem d_all_matchings (T : Nm K mg) (G : GC K C) (d_is_apart : Cl P w K mg base CX0 1 "is_apart" spApart) (D : Df K mg "all_matchings" s_all_matchings ["graph"]) : Cl P w K mg base CX0 2 "all_matchings" (spMts C) := by
  refine D.cl sc_all_matchings (fun vs H Q E h => ?_) (fun f cdv A outer s H vs Q E hr h => ?_)
  · obtain ⟨_, _, rfl, _⟩ := h; rfl
  refine ⟨_, (pss_cons (ps_set (i := 1) sc_all_matchings.nd rfl (Or.inl rfl) (pe_lst (pa_cons (pe_lst pa_nil) pa_nil)))
        (pss_cons (ps_for PassesOwn.never rfl (pi_list (pe_revL (k_fld (K := K) rfl (pv 0) rfl))) (pg_name (i := 2) sc_all_matchings.nd rfl (Or.inr rfl)) (pss_one (ps_set (i := 1) sc_all_matchings.nd rfl (Or.inl rfl) (pe_op op_cat (pv 1) (pe_lc (own := [("matching", 3)]) rfl sc_all_matchings.nd (pi_list (pv 1)) (blkOk_by (N := ["graph", "found", "edge", "matching"]) (sc := defScope s_all_matchings) (by decide +kernel)) (fun _ _ _ _ _ => pg_name (i := 3) sc_all_matchings.nd rfl (Or.inl rfl)) (fun _ _ _ _ _ => pts_one (pt_val (pe_c0 d_is_apart hr (by decide) rfl (pa_cons (pv 2) (pa_cons (pv 3) pa_nil))))) (fun _ _ _ _ _ => (pe_op op_cat (pe_lst (pa_cons (pv 2) pa_nil)) (pv 3))))))))
        (pss_one (ps_ret (pv 1))))), ?_⟩
  obtain ⟨gv, g, rfl, ⟨a, dx, l, rfl, h1, h2⟩, le, q⟩ := h
  refine ⟨Nat.zero_le _, fun p hp => ?_⟩
  refine ⟨small5' (by show 1 ≤ 16000000; decide), fun F hF => ?_⟩
  have np : p ≠ F := ne_of_none upd_same hF
  have s0 : Same H (upd (upd H p (.lst [])) F (.lst [.ref p])) := (same_upd hp).trans (same_upd hF)
  refine ⟨_, rfl, a, C, dx, _, _, rfl, s0 _ _ h1, G.cl, G.nE, lkE, ?_⟩
  obtain ⟨l', xs, e, hl, hA⟩ := (h2.mono s0).list
  cases e
  refine ⟨l, xs, rfl, SqL.of hl, fun R hR => ?_⟩
  have s1 := s0.trans (same_upd (o := HO.lst xs.reverse) hR)
  have len := hA.len
  rw [List.length_map] at len
  refine ⟨R, rfl, ⟨_, SqL.of upd_same⟩, ?_⟩
  refine for_list (xs := xs.reverse) (fun i σ H2 => ∃ F2 w0 w1, σ = [some (.ref a), some (.ref F2), w0, w1] ∧ Same H H2 ∧ H2 R = some (.lst xs.reverse) ∧ RpA H2 xs (g.edges.map eE) ∧ Rp H2 (.ref F2) (.list ((mts (g.edges.drop (xs.length - i))).map eM))) ?_ ?_ ?_ ?_
  · refine ⟨F, none, none, rfl, s1, upd_same, hA.mono (same_upd hR), ?_⟩
    rw [Nat.sub_zero, len, List.drop_length]
    refine .lst (same_upd hR _ _ upd_same) (.cons (.lst (same_upd hR _ _ (same_upd hF _ _ upd_same)) .nil) .nil)
  · rintro i σ H2 hi ⟨F2, w0, w1, rfl, s2, hR2, _⟩
    exact SqL.of hR2
  · rintro i x σ H2 hx ⟨F2, w0, w1, rfl, s2, hR2, hA2, hF2⟩
    have hi : i < xs.length := by
      have := List.getElem?_eq_some_iff.mp hx
      obtain ⟨h, _⟩ := this
      simpa using h
    rw [List.getElem?_reverse hi] at hx
    obtain ⟨d, hd, hrp⟩ := hA2.get hx
    obtain ⟨e, he, rfl⟩ := map_get hd
    have dr : g.edges.drop (xs.length - (i + 1)) = e :: g.edges.drop (xs.length - i) := by
      have h3 : xs.length - (i + 1) = xs.length - 1 - i := by omega
      have h4 : xs.length - i = xs.length - 1 - i + 1 := by omega
      rw [h3, h4]
      obtain ⟨k1, k2⟩ := List.getElem?_eq_some_iff.mp he
      rw [← k2]
      exact List.drop_eq_getElem_cons k1
    have sub : (g.edges.drop (xs.length - (i + 1))).length ≤ 21 := by rw [List.length_drop]; omega
    generalize g.edges.drop (xs.length - (i + 1)) = E2 at dr sub
    generalize g.edges.drop (xs.length - i) = E1 at dr hF2
    subst dr
    obtain ⟨F2', ms, e2, hm, hM⟩ := hF2.list
    cases e2
    have sub1 : E1.length ≤ 21 := Nat.le_trans (Nat.le_succ _) sub
    refine ⟨_, rfl, _, rfl, F2, rfl, ⟨_, SqL.of hm⟩, ?_⟩
    refine comp_list (mts E1) eM (fun m => m.all (MG.apart e)) (fun m => e :: m) eM (SqL.of hm) hM (mts_size sub1) (fun m y H3 D acc C2 N2 hm2 s3 hD hy pT pF => ?_) (fun D H3 nD s3 r => ?_)
    · have s4 := s3.trans (hide_same H3 D)
      have lm := mts_sub E1 m hm2
      refine ⟨rfl, ?_⟩
      refine ⟨_, rfl, _, rfl, _, _, e, m, rfl, hrp.mono s4, hy.mono (hide_same _ _), by omega, fun H4 s5 => ⟨_, rfl, ?_⟩⟩
      refine ifb rfl (fun c => ?_) (fun c => pF c _ s5)
      refine ⟨_, rfl, small5' (by show 1 ≤ 16000000; decide), fun p5 hp5 => ⟨_, rfl, ?_⟩⟩
      have hy5 := hy.mono ((hide_mono D s5).trans (hide_mono D (same_upd (o := HO.lst [x]) hp5)))
      obtain ⟨b, vs, rfl, hb, hbA⟩ := hy5.list
      have np5 : p5 ≠ D := fun z => by rw [z, s5 _ _ hD] at hp5; cases hp5
      have lb := hbA.len
      rw [List.length_map] at lb
      refine ⟨p5, b, _, vs, rfl, rfl, upd_same, hide_same _ _ _ _ hb, small5' (by show 1 + vs.length ≤ 16000000; omega), fun p6 hp6 => ?_⟩
      have s6 := same_upd (o := HO.lst ([x] ++ vs)) hp6
      refine pT c _ _ ((s5.trans (same_upd hp5)).trans s6) (.lst (vs := x :: vs) ?_ (.cons ?_ (hbA.mono (hide_mono D s6))))
      · have np6 : p6 ≠ D := fun z => by rw [z, same_upd (o := HO.lst [x]) hp5 _ _ (s5 _ _ hD)] at hp6; cases hp6
        rw [hide_ne np6, upd_same]; rfl
      · exact hrp.mono (s3.trans (((hide_mono D s5).trans (hide_mono D (same_upd hp5))).trans (hide_mono D s6)))
    · obtain ⟨D', ys, e2, hD, hY⟩ := r.list
      cases e2
      have l1 := hM.len
      have l2 := hY.len
      rw [List.length_map] at l1 l2
      have l3 := mts_size sub
      have l4 : (mts (e :: E1)).length = (mts E1).length + (((mts E1).filter fun m => m.all (MG.apart e)).map fun m => e :: m).length := by
        show (mts E1 ++ _).length = _
        rw [List.length_append]
      refine ⟨F2, D, ms, ys, rfl, rfl, s3 _ _ hm, hD, small5' (by omega), fun p7 hp7 => ?_⟩
      have s7 := s3.trans (same_upd (o := HO.lst (ms ++ ys)) hp7)
      refine ⟨p7, _, _, rfl, s2.trans s7, s7 _ _ hR2, hA2.mono s7, .lst upd_same ?_⟩
      show RpA _ _ ((mts E1 ++ _).map eM)
      rw [List.map_append]
      exact (hM.mono s7).app (hY.mono (same_upd hp7))
  · rintro σ H2 ⟨F2, w0, w1, rfl, s2, hR2, hA2, hF2⟩
    rw [List.length_reverse, Nat.sub_self, List.drop_zero] at hF2
    exact ⟨_, rfl, q _ _ s2 hF2⟩
theorem k_bm {X : Cx} {T : String} {r : V → List V → Hp → VK → Prop} {name : Str} {id : String} {o e : Expr} {es : List Expr} {to : TE} {t : TA} {apos cpos : Pos} (eK : X.K = K) (pa : PlainAttrs T) (slot : Slot T name id) (hty : typeOf (.builtin id) = pure (.type "method_descriptor")) (hm : MtR X id r) (ho : PE X o to) (ha : PA X (e :: es) t)
    (hbase : attributeBase o name X.env (eval o X.env) = eval o X.env := by rfl)
    (hfew : ((backTo cpos (starEach (e :: es) X.env)).all (fun x => !x.1) && (backToKw cpos (keywordEach [] X.env)).all (fun x => x.1.isSome)
      && decide ((e :: es).length + ([] : List Keyword).length + (if ([] : List Keyword).isEmpty then 0 else 1) < 30)) = true := by rfl)
    (hline : (apos.endLine == cpos.line) = true := by rfl) (hs : starEach (e :: es) X.env = (false, eval e X.env) :: starEach es X.env := by rfl) (hplain : (backTo cpos (starEach es X.env)).any (·.1) = false := by rfl) :
    PE X (.Call (.Attribute o name apos) (e :: es) [] cpos) (tBM K T r to t) := by
  subst eK; exact pe_bm pa slot hty hm ho ha hbase hfew hline hs hplain
/-! ### counts -/
theorem scal_dec (a b : Nat) : decide (V.int (a : Int) = V.int (b : Int)) = (a == b) := by
  by_cases h : a = b
  · subst h; simp
  · rw [beq_eq_false_iff_ne.mpr h]; exact decide_eq_false fun z => h (by cases z; rfl)
theorem eM_len {H : Hp} {v : V} {m : List Ed} (h : Rp H v (eM m)) : ∃ p ys, v = .ref p ∧ H p = some (.lst ys) ∧ ys.length = m.length := by
  obtain ⟨p, ys, rfl, h1, h2⟩ := h.list
  exact ⟨p, ys, rfl, h1, by rw [h2.len, List.length_map]⟩
abbrev s_of_size : Stmt := topS 8
theorem sc_of_size : FnScope ["graph", "size", "matching"] ["graph", "size"] (defScope s_of_size) := ⟨rfl, rfl, rfl, by decide +kernel, rfl, by decide +kernel, by decide +kernel⟩
def spOfSize (C : Addr) : Sp := fun vs H Q _ => ∃ (gv : V) (g : Kqg4.Graph) (k : Nat), vs = [gv, .int (k : Nat)] ∧ GAt C H gv g ∧ g.edges.length ≤ 21 ∧ ∀ r H', Same H H' → Rp H' r (.list (((mts g.edges).filter fun m => m.length == k).map eM)) → Q r H'
theorem d_of_size (T : Nm K mg) (G : GC K C) (d_all_matchings : Cl P w K mg base CX0 2 "all_matchings" (spMts C)) (D : Df K mg "of_size" s_of_size ["graph", "size"]) : Cl P w K mg base CX0 3 "of_size" (spOfSize C) := by
  refine D.cl sc_of_size (fun vs H Q E h => ?_) (fun f cdv A outer s H vs Q E hr h => ?_)
  · obtain ⟨_, _, _, rfl, _⟩ := h; rfl
  refine ⟨_, (pss_one (ps_ret (pe_lc (own := [("matching", 2)]) rfl sc_of_size.nd (pi_list (pe_c0 d_all_matchings hr (by decide) rfl (pa_cons (pv 0) pa_nil))) (blkOk_by (N := ["graph", "size", "matching"]) (sc := defScope s_of_size) (by decide +kernel)) (fun _ _ _ _ _ => pg_name (i := 2) sc_of_size.nd rfl (Or.inl rfl)) (fun _ _ _ _ _ => pts_one (pt_cmpR (op_eq) (pe_callB (k_len (K := K) rfl) rfl T.n_len (by decide +kernel) (pa_cons (pv 2) pa_nil)) (pv 1) (nomark _))) (fun _ _ _ _ _ => (pv 2))))), ?_⟩
  obtain ⟨gv, g, k, rfl, gt, le, q⟩ := h
  refine ⟨_, rfl, gv, g, rfl, gt, le, fun r H1 s1 hr1 => ?_⟩
  obtain ⟨a, xs, rfl, ha, hA⟩ := hr1.list
  refine ⟨a, rfl, ⟨_, SqL.of ha⟩, ?_⟩
  refine comp_list (mts g.edges) eM (fun m => m.length == k) id eM (SqL.of ha) hA (mts_size le) (fun m y H2 D acc C2 N2 hx s2 hD hy pT pF => ?_) (fun D H2 nD s2 r => ?_)
  · obtain ⟨p, ys, rfl, hp, lp⟩ := eM_len hy
    refine ⟨rfl, _, rfl, p, ys, rfl, .inl (SqL.of (hide_same _ _ _ _ hp)), _, rfl, rfl, _, rfl, ?_⟩
    refine ifb (by rw [lp]; exact scal_dec _ _) (fun c => ⟨_, rfl, pT c _ _ (Same.refl _) hy⟩) (fun c => pF c _ (Same.refl _))
  · rw [List.map_id] at r
    exact q _ _ (s1.trans s2) r
abbrev s_matching_counts : Stmt := topS 9
theorem sc_matching_counts : FnScope ["graph", "sizes", "matching", "size"] ["graph"] (defScope s_matching_counts) := ⟨rfl, rfl, rfl, by decide +kernel, rfl, by decide +kernel, by decide +kernel⟩
def cts (g : Kqg4.Graph) : List Int := (List.range (g.vertexCount / 2 + 1)).map fun k => ((MG.cnt g.edges k : Nat) : Int)
theorem cnt_count (E : List Ed) (k : Nat) : (((mts E).map fun m => (m.length : Int)).count (k : Int)) = MG.cnt E k := by
  rw [List.count, List.countP_map, MG.cnt, List.countP_eq_length_filter]
  congr 2
  funext m
  simp only [Function.comp]
  by_cases h : m.length = k
  · subst h; simp
  · rw [beq_eq_false_iff_ne.mpr h]; exact beq_eq_false_iff_ne.mpr (by omega)
def spCts (C : Addr) : Sp := fun vs H Q _ => ∃ (gv : V) (g : Kqg4.Graph), vs = [gv] ∧ GAt C H gv g ∧ g.edges.length ≤ 21 ∧ g.vertexCount ≤ 1000 ∧ ∀ r H', Same H H' → LI H' r (cts g) → Q r H'
theorem d_matching_counts (T : Nm K mg) (G : GC K C) (d_all_matchings : Cl P w K mg base CX0 2 "all_matchings" (spMts C)) (D : Df K mg "matching_counts" s_matching_counts ["graph"]) : Cl P w K mg base CX0 3 "matching_counts" (spCts C) := by
  refine D.cl sc_matching_counts (fun vs H Q E h => ?_) (fun f cdv A outer s H vs Q E hr h => ?_)
  · obtain ⟨_, _, rfl, _⟩ := h; rfl
  refine ⟨_, (pss_cons (ps_set (i := 1) sc_matching_counts.nd rfl (Or.inr rfl) (pe_lc (own := [("matching", 2)]) rfl sc_matching_counts.nd (pi_list (pe_c0 d_all_matchings hr (by decide) rfl (pa_cons (pv 0) pa_nil))) (blkOk_by (N := ["graph", "sizes", "matching", "size"]) (sc := defScope s_matching_counts) (by decide +kernel)) (fun _ _ _ _ _ => pg_name (i := 2) sc_matching_counts.nd rfl (Or.inl rfl)) (fun _ _ _ _ _ => pts_nil) (fun _ _ _ _ _ => (pe_callB (k_len (K := K) rfl) rfl T.n_len (by decide +kernel) (pa_cons (pv 2) pa_nil)))))
        (pss_one (ps_ret (pe_lc (own := [("size", 3)]) rfl sc_matching_counts.nd (pi_range1 rfl T.n_range (pa_cons (pe_op op_add (pe_op op_fdiv (k_fld (K := K) rfl (pv 0) rfl) pe_int) pe_int) pa_nil)) (blkOk_by (N := ["graph", "sizes", "matching", "size"]) (sc := defScope s_matching_counts) (by decide +kernel)) (fun _ _ _ _ _ => pg_name (i := 3) sc_matching_counts.nd rfl (Or.inl rfl)) (fun _ _ _ _ _ => pts_nil) (fun _ _ _ _ _ => (k_bm (K := K) rfl PySem.F.plainAttrs_list PySem.F.slot_list_count PySem.F.type_list_count (k_cnt (K := K) rfl) (pv 1) (pa_cons (pv 3) pa_nil))))))), ?_⟩
  obtain ⟨gv, g, rfl, gt, le, ln, q⟩ := h
  refine ⟨_, rfl, gv, g, rfl, gt, le, fun r H1 s1 hr1 => ?_⟩
  obtain ⟨a, xs, rfl, ha, hA⟩ := hr1.list
  refine ⟨a, rfl, ⟨_, SqL.of ha⟩, ?_⟩
  refine comp_list (mts g.edges) eM (fun _ => true) (fun m => (m.length : Int)) PyData.int (SqL.of ha) hA (mts_size le) (fun m y H2 D acc C2 N2 hx s2 hD hy pT pF => ?_) (fun D H2 nD s2 r => ?_)
  · obtain ⟨p, ys, rfl, hp, lp⟩ := eM_len hy
    refine ⟨rfl, _, rfl, p, ys, rfl, .inl (SqL.of (hide_same _ _ _ _ hp)), pT rfl _ _ (Same.refl _) ?_⟩
    rw [lp]; exact .int _
  rw [filtT] at r
  obtain ⟨D', e, hD⟩ := LI.of r
  cases e
  obtain ⟨ga, dx, l, rfl, h1, h2⟩ := gt
  have s12 := s1.trans s2
  refine ⟨_, rfl, ga, C, dx, _, _, rfl, s12 _ _ h1, G.cl, G.nV, lkV, ?_⟩
  refine ⟨_, _, rfl, rfl, ⟨by decide, by decide⟩, _, _, rfl, rfl, _, rfl, ?_⟩
  have en : (((g.vertexCount : Nat) : Int) / 2 + 1).toNat = g.vertexCount / 2 + 1 := by omega
  refine ⟨by omega, by omega, ?_⟩
  rw [en]
  refine comp_range (fun _ => true) (fun k => ((MG.cnt g.edges k : Nat) : Int)) PyData.int (by omega) (fun i H3 D3 acc C2 N2 hi s3 hD3 pT pF => ?_) (fun D3 H3 nD s3 r => ?_)
  · have s4 := s3.trans (hide_same H3 D3)
    refine ⟨rfl, _, rfl, .inl ⟨rfl, _, SqL.of (s4 _ _ hD)⟩, _, rfl, D, _, ((0 : Int) + (i : Int)), rfl, rfl, SqL.of (s4 _ _ hD), pT rfl _ _ (Same.refl _) ?_⟩
    rw [Int.zero_add, cnt_count]
    exact .int _
  · rw [filtT] at r
    exact q _ _ (s12.trans s3) (LI.of r)
abbrev s_perfect_count : Stmt := topS 10
theorem sc_perfect_count : FnScope ["graph", "matching"] ["graph"] (defScope s_perfect_count) := ⟨rfl, rfl, rfl, by decide +kernel, rfl, by decide +kernel, by decide +kernel⟩
def spPerf (C : Addr) : Sp := fun vs H Q _ => ∃ (gv : V) (g : Kqg4.Graph), vs = [gv] ∧ GAt C H gv g ∧ g.edges.length ≤ 21 ∧ ∀ H', Same H H' → Q (.int (((mts g.edges).filter fun m => 2 * m.length == g.vertexCount).length : Nat)) H'
theorem d_perfect_count (T : Nm K mg) (G : GC K C) (d_all_matchings : Cl P w K mg base CX0 2 "all_matchings" (spMts C)) (D : Df K mg "perfect_count" s_perfect_count ["graph"]) : Cl P w K mg base CX0 3 "perfect_count" (spPerf C) := by
  refine D.cl sc_perfect_count (fun vs H Q E h => ?_) (fun f cdv A outer s H vs Q E hr h => ?_)
  · obtain ⟨_, _, rfl, _⟩ := h; rfl
  refine ⟨_, (pss_one (ps_ret (pe_callB (k_len (K := K) rfl) rfl T.n_len (by decide +kernel) (pa_cons (pe_lc (own := [("matching", 1)]) rfl sc_perfect_count.nd (pi_list (pe_c0 d_all_matchings hr (by decide) rfl (pa_cons (pv 0) pa_nil))) (blkOk_by (N := ["graph", "matching"]) (sc := defScope s_perfect_count) (by decide +kernel)) (fun _ _ _ _ _ => pg_name (i := 1) sc_perfect_count.nd rfl (Or.inl rfl)) (fun _ _ _ _ _ => pts_one (pt_cmpR (op_eq) (pe_op op_mul pe_int (pe_callB (k_len (K := K) rfl) rfl T.n_len (by decide +kernel) (pa_cons (pv 1) pa_nil))) (k_fld (K := K) rfl (pv 0) rfl) (nomark _))) (fun _ _ _ _ _ => (pv 1))) pa_nil)))), ?_⟩
  obtain ⟨gv, g, rfl, gt, le, q⟩ := h
  refine ⟨_, rfl, gv, g, rfl, gt, le, fun r H1 s1 hr1 => ?_⟩
  obtain ⟨a, xs, rfl, ha, hA⟩ := hr1.list
  obtain ⟨ga, dx, l, rfl, h1, h2⟩ := gt
  refine ⟨a, rfl, ⟨_, SqL.of ha⟩, ?_⟩
  refine comp_list (mts g.edges) eM (fun m => 2 * m.length == g.vertexCount) id eM (SqL.of ha) hA (mts_size le) (fun m y H2 D acc C2 N2 hx s2 hD hy pT pF => ?_) (fun D H2 nD s2 r => ?_)
  · obtain ⟨p, ys, rfl, hp, lp⟩ := eM_len hy
    have s3 := s2.trans (hide_same H2 D)
    refine ⟨rfl, _, rfl, p, ys, rfl, .inl (SqL.of (hide_same _ _ _ _ hp)), ?_⟩
    refine ⟨_, _, rfl, rfl, .inl ⟨by decide, by decide⟩, ?_⟩
    refine ⟨_, rfl, ga, C, dx, _, _, rfl, s3 _ _ (s1 _ _ h1), G.cl, G.nV, lkV, rfl, _, rfl, ?_⟩
    refine ifb (by rw [lp]; exact scal_dec (2 * m.length) g.vertexCount) (fun c => ⟨_, rfl, pT c _ _ (Same.refl _) hy⟩) (fun c => pF c _ (Same.refl _))
  · rw [List.map_id] at r
    obtain ⟨D', ys, e, hD, hY⟩ := r.list
    cases e
    refine ⟨D, ys, rfl, .inl (SqL.of hD), ?_⟩
    rw [hY.len, List.length_map]
    exact q _ (s1.trans s2)
end
end WK

-- part W7
set_option maxRecDepth 100000
set_option maxHeartbeats 4000000
namespace WK
open PySem PySem.Spec PyProof.Rows L2
section
variable {P : Program} {w : World} {K : PySem.W.Frag} {mg : Str → Option Value} {base : Heap} {C : Addr}
abbrev s_signed : Stmt := topS 11
theorem sc_signed : FnScope ["size"] ["size"] (defScope s_signed) := ⟨rfl, rfl, rfl, by decide +kernel, rfl, by decide +kernel, by decide +kernel⟩
def spSigned : Sp := fun vs H Q _ => ∃ k : Nat, vs = [.int (k : Nat)] ∧ Q (.int (MG.sgn k)) H
theorem d_signed (T : Nm K mg) (D : Df K mg "signed" s_signed ["size"]) : Cl P w K mg base CX0 1 "signed" spSigned := by
  refine D.cl sc_signed (fun vs H Q E h => ?_) (fun f cdv A outer s H vs Q E hr h => ?_)
  · obtain ⟨_, rfl, _⟩ := h; rfl
  refine ⟨_, (pss_one (ps_ret (pe_op op_sub pe_int (pe_op op_mul pe_int (pe_op op_mod (pv 0) pe_int))))), ?_⟩
  obtain ⟨k, rfl, q⟩ := h
  refine ⟨_, rfl, _, _, rfl, rfl, (by show (0 : Int) < 2; decide), _, _, rfl, rfl, .inl ⟨by decide, by decide⟩, _, _, rfl, rfl, ?_⟩
  have e : (1 : Int) - 2 * ((k : Int) % 2) = MG.sgn k := by
    unfold MG.sgn
    split <;> omega
  show Q (.int ((1 : Int) - 2 * ((k : Int) % 2))) H
  rw [e]; exact q
abbrev s_odd_product : Stmt := topS 12
theorem sc_odd_product : FnScope ["number", "found", "factor"] ["number"] (defScope s_odd_product) := ⟨rfl, rfl, rfl, by decide +kernel, rfl, by decide +kernel, by decide +kernel⟩
def oddStep (f : Int) (i : Nat) : Int := f * (1 + (i : Int) * 2)
def oddP (m : Nat) : Int := if m % 2 = 1 then 0 else (List.range (m / 2)).foldl oddStep 1
theorem odd_rg : ∀ m : Nat, m ≤ 7 → RgC 1 (m : Nat) 2 (m / 2) := by
  have : ∀ m : Nat, m < 8 → RgC 1 (m : Nat) 2 (m / 2) := by unfold RgC; decide +kernel
  intro m h; exact this m (by omega)
def spOdd : Sp := fun vs H Q _ => ∃ m : Nat, vs = [.int (m : Nat)] ∧ m ≤ 7 ∧ Q (.int (oddP m)) H
theorem d_odd_product (T : Nm K mg) (D : Df K mg "odd_product" s_odd_product ["number"]) : Cl P w K mg base CX0 1 "odd_product" spOdd := by
  refine D.cl sc_odd_product (fun vs H Q E h => ?_) (fun f cdv A outer s H vs Q E hr h => ?_)
  · obtain ⟨_, rfl, _⟩ := h; rfl
  refine ⟨_, (pss_cons (ps_if (pt_cmpR (op_eq) (pe_op op_mod (pv 0) pe_int) pe_int (nomark _)) (pss_one (ps_ret pe_int)) pss_nil)
        (pss_cons (ps_set (i := 1) sc_odd_product.nd rfl (Or.inl rfl) pe_int)
        (pss_cons (ps_for PassesOwn.never rfl (pi_range3 rfl T.n_range (pa_cons pe_int (pa_cons (pv 0) (pa_cons pe_int pa_nil)))) (pg_name (i := 2) sc_odd_product.nd rfl (Or.inl rfl)) (pss_one (ps_set (i := 1) sc_odd_product.nd rfl (Or.inl rfl) (pe_op op_mul (pv 1) (pv 2)))))
        (pss_one (ps_ret (pv 1)))))), ?_⟩
  obtain ⟨m, rfl, le, q⟩ := h
  refine ⟨_, rfl, _, _, rfl, rfl, (by show (0 : Int) < 2; decide), rfl, _, rfl, ?_⟩
  by_cases c : m % 2 = 1
  · have e : decide (V.int (((m : Nat) : Int) % 2) = V.int 1) = true := decide_eq_true (by congr 1; omega)
    refine ifb e (fun _ => ?_) (fun z => absurd z (by decide))
    have : oddP m = 0 := if_pos c
    rw [this] at q
    exact q
  · have e : decide (V.int (((m : Nat) : Int) % 2) = V.int 1) = false := decide_eq_false fun z => c (by injection z; omega)
    refine ifb e (fun z => absurd z (by decide)) (fun _ => ?_)
    refine ⟨_, rfl, _, _, _, _, rfl, odd_rg m le, ?_⟩
    refine for_rangeC (fun i σ H2 => ∃ w0, σ = [some (.int (m : Nat)), some (.int ((List.range i).foldl oddStep 1)), w0] ∧ H2 = H) ⟨none, rfl, rfl⟩ ?_ ?_
    · rintro i σ H2 hi ⟨w0, rfl, rfl⟩
      refine ⟨_, rfl, _, rfl, _, _, rfl, rfl, .inr ⟨by omega, by omega⟩, some (.int (1 + (i : Int) * 2)), ?_, rfl⟩
      rw [List.range_succ, List.foldl_append]; rfl
    · rintro σ H2 ⟨w0, rfl, rfl⟩
      have : oddP m = (List.range (m / 2)).foldl oddStep 1 := if_neg c
      rw [this] at q
      exact ⟨_, rfl, q⟩
abbrev s_complement_sum : Stmt := topS 13
theorem sc_complement_sum : FnScope ["graph", "counts", "k", "many"] ["graph"] (defScope s_complement_sum) := ⟨rfl, rfl, rfl, by decide +kernel, rfl, by decide +kernel, by decide +kernel⟩
def csum (g : Kqg4.Graph) : Int := ((List.range (g.vertexCount / 2 + 1)).map fun k => MG.sgn k * ((MG.cnt g.edges k : Nat) : Int) * oddP (g.vertexCount - 2 * k)).sum
theorem sgn_small (k : Nat) : -(2 ^ 64) < MG.sgn k ∧ MG.sgn k < 2 ^ 64 := by unfold MG.sgn; split <;> decide
theorem odd_small : ∀ m : Nat, m ≤ 7 → -(2 ^ 64) < oddP m ∧ oddP m < 2 ^ 64 := by
  have : ∀ m : Nat, m < 8 → -(2 ^ 64) < oddP m ∧ oddP m < 2 ^ 64 := by decide +kernel
  intro m h; exact this m (by omega)
def spCsum (C : Addr) : Sp := fun vs H Q _ => ∃ (gv : V) (g : Kqg4.Graph), vs = [gv] ∧ GAt C H gv g ∧ g.edges.length ≤ 21 ∧ g.vertexCount ≤ 7 ∧ ∀ H', Same H H' → Q (.int (csum g)) H'
theorem cts_get {g : Kqg4.Graph} {i : Nat} {y : V} (h : ((cts g).map V.int)[i]? = some y) : y = .int ((MG.cnt g.edges i : Nat) : Int) ∧ i < g.vertexCount / 2 + 1 := by
  unfold cts at h
  rw [List.map_map] at h
  obtain ⟨x, hx, rfl⟩ := map_get h
  obtain ⟨h1, h2⟩ := List.getElem?_eq_some_iff.mp hx
  rw [List.getElem_range] at h2
  subst h2
  exact ⟨rfl, by simpa using h1⟩
theorem cts_len (g : Kqg4.Graph) : ((cts g).map V.int).length = g.vertexCount / 2 + 1 := by unfold cts; rw [List.length_map, List.length_map, List.length_range]
theorem d_complement_sum (T : Nm K mg) (G : GC K C) (d_matching_counts : Cl P w K mg base CX0 3 "matching_counts" (spCts C)) (d_signed : Cl P w K mg base CX0 1 "signed" spSigned) (d_odd_product : Cl P w K mg base CX0 1 "odd_product" spOdd) (D : Df K mg "complement_sum" s_complement_sum ["graph"]) : Cl P w K mg base CX0 4 "complement_sum" (spCsum C) := by
  refine D.cl sc_complement_sum (fun vs H Q E h => ?_) (fun f cdv A outer s H vs Q E hr h => ?_)
  · obtain ⟨_, _, rfl, _⟩ := h; rfl
  refine ⟨_, (pss_cons (ps_set (i := 1) sc_complement_sum.nd rfl (Or.inl rfl) (pe_c0 d_matching_counts hr (by decide) rfl (pa_cons (pv 0) pa_nil)))
        (pss_one (ps_ret (pe_callB (cr_sum rfl) rfl T.n_sum (by decide +kernel) (pa_cons (pe_lc (own := [("k", 2), ("many", 3)]) rfl sc_complement_sum.nd (pi_enum rfl T.n_enumerate (pa_cons (pv 1) pa_nil)) (blkOk_by (N := ["graph", "counts", "k", "many"]) (sc := defScope s_complement_sum) (by decide +kernel)) (fun _ _ _ _ _ => k_tup (K := K) (n := 2) rfl rfl (pgs_cons (pg_name (i := 2) sc_complement_sum.nd rfl (Or.inl rfl)) (pgs_cons (pg_name (i := 3) sc_complement_sum.nd rfl (Or.inl rfl)) pgs_nil))) (fun _ _ _ _ _ => pts_nil) (fun _ _ _ _ _ => (pe_op op_mul (pe_op op_mul (pe_c0 d_signed hr (by decide) rfl (pa_cons (pv 2) pa_nil)) (pv 3)) (pe_c0 d_odd_product hr (by decide) rfl (pa_cons (pe_op op_sub (k_fld (K := K) rfl (pv 0) rfl) (pe_op op_mul pe_int (pv 2))) pa_nil))))) pa_nil))))), ?_⟩
  obtain ⟨gv, g, rfl, gt, le, ln, q⟩ := h
  refine ⟨_, rfl, gv, g, rfl, gt, le, by omega, fun r H1 s1 hr1 => ?_⟩
  obtain ⟨a, rfl, ha⟩ := hr1
  obtain ⟨ga, dx, l, rfl, h1, h2⟩ := gt
  refine ⟨_, rfl, a, _, rfl, SqL.of ha, ?_⟩
  refine comp_it (n := g.vertexCount / 2 + 1) (cts_len g ▸ walk_enum) (fun k => MG.sgn k * ((MG.cnt g.edges k : Nat) : Int) * oddP (g.vertexCount - 2 * k)) PyData.int (fun H s => SqL.of (s _ _ ha)) (by omega) (fun i x H2 H3 D acc C2 N2 hi s2 hD hy pT => ?_) (fun D H2 nD s2 r => ?_)
  · obtain ⟨T0, x0, y0, rfl, hT, rfl, e1, e2⟩ := hy
    cases Option.some.inj e1
    obtain ⟨rfl, _⟩ := cts_get e2
    have s3 := (s2.trans (hide_same H2 D)).trans (same_upd (o := HO.tup [.int (i : Nat), .int ((MG.cnt g.edges i : Nat) : Int)]) hT)
    refine ⟨T0, _, rfl, SqT.of upd_same, rfl, _, _, rfl, _, _, rfl, rfl, rfl, ?_⟩
    refine ⟨_, rfl, i, rfl, ?_⟩
    refine ⟨_, rfl, _, _, rfl, rfl, .inl (sgn_small i), ?_⟩
    refine ⟨_, rfl, ga, C, dx, _, _, rfl, s3 _ _ (s1 _ _ h1), G.cl, G.nV, lkV, ?_⟩
    refine ⟨_, rfl, _, _, rfl, rfl, .inl ⟨by decide, by decide⟩, _, _, rfl, rfl, ?_⟩
    have e : ((g.vertexCount : Nat) : Int) - 2 * ((i : Nat) : Int) = ((g.vertexCount - 2 * i : Nat) : Int) := by omega
    refine ⟨g.vertexCount - 2 * i, by simp only [e]; rfl, by omega, ?_⟩
    refine ⟨_, _, rfl, rfl, .inr (odd_small _ (by omega)), ?_⟩
    exact pT _ _ (same_upd hT) (.int _)
  · obtain ⟨b, e, hb⟩ := LI.of r
    cases e
    exact ⟨D, _, rfl, SqL.of hb, q _ (s1.trans s2)⟩
end
end WK

-- part W8
set_option maxRecDepth 100000
set_option maxHeartbeats 4000000
namespace WK
open PySem PySem.Spec PyProof.Rows L2
/-! ## Polynomials -/
theorem ixN_nat {n j : Nat} (h : j < n) : ixN n (j : Int) = some j := by
  unfold ixN
  rw [if_pos (by omega), if_pos (by omega), Int.toNat_natCast]
theorem lst_at {l : List Int} (h : 0 < l.length) : atI (l.map V.int) (-1) = some (.int (MG.lst l)) := by
  have e : ixN (l.map V.int).length (-1) = some (l.length - 1) := by
    unfold ixN
    rw [if_neg (by decide), if_pos (by rw [List.length_map]; omega), List.length_map]
    congr 1; omega
  unfold atI
  rw [e]
  show (l.map V.int)[l.length - 1]? = _
  rw [List.getElem?_map, MG.lst, List.getD_eq_getElem?_getD, List.getElem?_eq_getElem (by omega)]
  rfl
theorem int_at {l : List Int} {i : Nat} (h : i < l.length) : atI (l.map V.int) (i : Int) = some (.int (l.getD i 0)) := by
  refine atI_nat ?_
  rw [List.getElem?_map, List.getD_eq_getElem?_getD, List.getElem?_eq_getElem h]
  rfl
theorem ints_lay : ∀ l : List Int, PyData.canLayAll0 (l.map PyData.int) = true
  | [] => by simp [PyData.canLayAll0]
  | e :: E => by simp [PyData.canLayAll0, ints_lay E, PyData.canLay0]
theorem ints_depth : ∀ l : List Int, PyData.depthAll (l.map PyData.int) ≤ 1
  | [] => by simp [PyData.depthAll]
  | e :: E => by
    have := ints_depth E
    simp only [List.map_cons, PyData.depthAll, PyData.depth]
    omega
theorem ints_shaped (l : List Int) : SeqAt.shaped (.list (l.map PyData.int)) = true := by
  have := ints_depth l
  unfold SeqAt.shaped
  rw [PyData.canLay0, ints_lay, PyData.depth, Bool.true_and]
  exact decide_eq_true (by omega)
theorem ints_nil (l : List Int) : (!PyData.eqv (.list (l.map PyData.int)) (.list [])) = !l.isEmpty := by
  cases l <;> simp [PyData.eqv, PyData.eqvAll]
section
variable {P : Program} {w : World} {K : PySem.W.Frag} {mg : Str → Option Value} {base : Heap} {C : Addr}
abbrev s_matching_polynomial : Stmt := topS 20
theorem sc_matching_polynomial : FnScope ["graph", "found", "k", "many"] ["graph"] (defScope s_matching_polynomial) := ⟨rfl, rfl, rfl, by decide +kernel, rfl, by decide +kernel, by decide +kernel⟩
def mpP (n : Nat) (E : List Ed) (i : Nat) : List Int := (List.range (n + 1)).map fun p => if (n - p) % 2 = 1 then 0 else if (n - p) / 2 < i then MG.sgn ((n - p) / 2) * ((MG.cnt E ((n - p) / 2) : Nat) : Int) else 0
theorem mpP_zero (n : Nat) (E : List Ed) : mpP n E 0 = List.replicate (n + 1) 0 := by
  refine List.ext_getElem (by simp [mpP]) fun i h1 h2 => ?_
  simp [mpP]
theorem mpP_all (n : Nat) (E : List Ed) : mpP n E (n / 2 + 1) = MG.mp n E := by
  refine List.map_congr_left fun p hp => ?_
  split
  · rfl
  · rw [if_pos (by omega)]
theorem mpP_set (n : Nat) (E : List Ed) (i : Nat) (h : i < n / 2 + 1) : (mpP n E i).set (n - 2 * i) (MG.sgn i * ((MG.cnt E i : Nat) : Int)) = mpP n E (i + 1) := by
  refine List.ext_getElem (by simp [mpP]) fun p h1 h2 => ?_
  rw [List.getElem_set]
  have hp : p < n + 1 := by simpa [mpP] using h2
  simp only [mpP, List.getElem_map, List.getElem_range, List.length_set, List.length_map, List.length_range] at *
  by_cases c : n - 2 * i = p
  · have e : (n - p) / 2 = i := by omega
    rw [if_pos c, if_neg (by omega), e, if_pos (by omega)]
  · rw [if_neg c]
    by_cases d : (n - p) % 2 = 1
    · rw [if_pos d, if_pos d]
    · rw [if_neg d, if_neg d]
      by_cases f : (n - p) / 2 < i
      · rw [if_pos f, if_pos (by omega)]
      · rw [if_neg f, if_neg (by omega)]
theorem flat_rep {α : Type} (x : α) : ∀ n : Nat, (List.replicate n [x]).flatten = List.replicate n x
  | 0 => rfl
  | n + 1 => by rw [List.replicate_succ, List.flatten_cons, flat_rep x n]; rfl
def spMp (C : Addr) : Sp := fun vs H Q _ => ∃ (gv : V) (g : Kqg4.Graph), vs = [gv] ∧ GAt C H gv g ∧ g.edges.length ≤ 21 ∧ g.vertexCount ≤ 1000 ∧ ∀ r H', Same H H' → LI H' r (MG.mp g.vertexCount g.edges) → Q r H'
theorem d_matching_polynomial (T : Nm K mg) (G : GC K C) (d_matching_counts : Cl P w K mg base CX0 3 "matching_counts" (spCts C)) (d_signed : Cl P w K mg base CX0 1 "signed" spSigned) (D : Df K mg "matching_polynomial" s_matching_polynomial ["graph"]) : Cl P w K mg base CX0 4 "matching_polynomial" (spMp C) := by
  refine D.cl sc_matching_polynomial (fun vs H Q E h => ?_) (fun f cdv A outer s H vs Q E hr h => ?_)
  · obtain ⟨_, _, rfl, _⟩ := h; rfl
  refine ⟨_, (pss_cons (ps_set (i := 1) sc_matching_polynomial.nd rfl (Or.inl rfl) (pe_op op_rep (pe_lst (pa_cons pe_int pa_nil)) (pe_op op_add (k_fld (K := K) rfl (pv 0) rfl) pe_int)))
        (pss_cons (ps_for PassesOwn.never rfl (pi_enum rfl T.n_enumerate (pa_cons (pe_c0 d_matching_counts hr (by decide) rfl (pa_cons (pv 0) pa_nil)) pa_nil)) (pg_tup (by rfl) (pgs_cons (pg_name (i := 2) sc_matching_polynomial.nd rfl (Or.inl rfl)) (pgs_cons (pg_name (i := 3) sc_matching_polynomial.nd rfl (Or.inl rfl)) pgs_nil))) (pss_one (ps_asg (pe_op op_mul (pe_c0 d_signed hr (by decide) rfl (pa_cons (pv 2) pa_nil)) (pv 3)) (pg_sub (pv 1) (pe_op op_sub (k_fld (K := K) rfl (pv 0) rfl) (pe_op op_mul pe_int (pv 2))) set_list))))
        (pss_one (ps_ret (pv 1))))), ?_⟩
  obtain ⟨gv, g, rfl, gt, le, ln, q⟩ := h
  obtain ⟨ga, dx, l, rfl, h1, h2⟩ := id gt
  refine ⟨small5' (by show 1 ≤ 16000000; decide), fun p hp => ?_⟩
  have s1 := same_upd (o := HO.lst [.int 0]) hp
  refine ⟨_, rfl, ga, C, dx, _, _, rfl, s1 _ _ h1, G.cl, G.nV, lkV, _, _, rfl, rfl, ?_⟩
  have en : (((g.vertexCount : Nat) : Int) + 1).toNat = g.vertexCount + 1 := by omega
  refine ⟨p, _, _, rfl, rfl, upd_same, by omega, by omega, ?_, fun F hF => ?_⟩
  · rw [en]; exact small5' (by show 1 * (g.vertexCount + 1) ≤ 16000000; omega)
  rw [en, flat_rep]
  have s2 := s1.trans (same_upd (o := HO.lst (List.replicate (g.vertexCount + 1) (.int 0))) hF)
  refine ⟨_, rfl, .ref ga, g, rfl, gt.mono s2, le, ln, fun r H1 s3 hr1 => ?_⟩
  obtain ⟨a, rfl, ha⟩ := hr1
  have hF1 := s3 _ _ (upd_same (a := F))
  have naF : a ≠ F := fun z => by
    rw [z, hF1] at ha
    have z2 := congrArg (fun o => match o with | some (HO.lst (x :: _)) => x | _ => V.non) ha
    have e1 : cts g = 1 :: (cts g).tail := by
      unfold cts
      rw [List.range_succ_eq_map, List.map_cons, MG.cnt_zero]; rfl
    rw [e1] at z2
    simp [List.replicate_succ] at z2
  refine ⟨a, _, rfl, SqL.of ha, ?_⟩
  refine for_it (n := g.vertexCount / 2 + 1) (cts_len g ▸ walk_enum) (fun i σ H2 => ∃ w0 w1, σ = [some (.ref ga), some (.ref F), w0, w1] ∧ Same H H2 ∧ H2 a = some (.lst ((cts g).map V.int)) ∧ H2 F = some (.lst ((mpP g.vertexCount g.edges i).map V.int))) ?_ ?_ ?_ ?_
  · refine ⟨none, none, rfl, s2.trans s3, ha, ?_⟩
    rw [hF1, mpP_zero, List.map_replicate]
  · rintro i σ H2 hi ⟨w0, w1, rfl, s4, ha2, hF2⟩
    exact SqL.of ha2
  · rintro i x σ H2 H3 hi ⟨w0, w1, rfl, s4, ha2, hF2⟩ ⟨T0, x0, y0, rfl, hT, rfl, e1, e2⟩
    cases Option.some.inj e1
    obtain ⟨rfl, _⟩ := cts_get e2
    have s5 := same_upd (o := HO.tup [.int (i : Nat), .int ((MG.cnt g.edges i : Nat) : Int)]) hT
    refine ⟨T0, _, rfl, SqT.of upd_same, rfl, _, _, rfl, _, _, rfl, rfl, ?_⟩
    refine ⟨_, rfl, i, rfl, ?_⟩
    refine ⟨_, rfl, _, _, rfl, rfl, .inl (sgn_small i), ?_⟩
    refine ⟨_, rfl, ?_⟩
    refine ⟨_, rfl, ga, C, dx, _, _, rfl, s5 _ _ (s4 _ _ h1), G.cl, G.nV, lkV, ?_⟩
    refine ⟨_, rfl, _, _, rfl, rfl, .inl ⟨by decide, by decide⟩, _, _, rfl, rfl, ?_⟩
    have e : ((g.vertexCount : Nat) : Int) - 2 * ((i : Nat) : Int) = ((g.vertexCount - 2 * i : Nat) : Int) := by omega
    refine ⟨F, _, _, g.vertexCount - 2 * i, rfl, rfl, s5 _ _ hF2, ?_, ?_⟩
    · rw [e]; exact ixN_nat (by simp [mpP]; omega)
    · refine ⟨_, _, rfl, ?_, ?_, ?_⟩
      · intro b o hb
        have nb : b ≠ F := fun z => by
          rw [z] at hb
          have hb2 := s1 _ _ hb
          rw [hF] at hb2
          cases hb2
        rw [upd_ne nb]; exact s5 _ _ (s4 _ _ hb)
      · rw [upd_ne naF]; exact s5 _ _ ha2
      · rw [upd_same, ← mpP_set _ _ _ hi, List.map_set]
  · rintro σ H2 ⟨w0, w1, rfl, s4, ha2, hF2⟩
    rw [mpP_all] at hF2
    exact ⟨_, rfl, q _ _ s4 ⟨F, rfl, hF2⟩⟩
abbrev s_squared_polynomial : Stmt := topS 21
theorem sc_squared_polynomial : FnScope ["graph", "n", "some", "i"] ["graph"] (defScope s_squared_polynomial) := ⟨rfl, rfl, rfl, by decide +kernel, rfl, by decide +kernel, by decide +kernel⟩
def spSq (C : Addr) : Sp := fun vs H Q _ => ∃ (gv : V) (g : Kqg4.Graph), vs = [gv] ∧ GAt C H gv g ∧ g.edges.length ≤ 21 ∧ g.vertexCount ≤ 1000 ∧ ∀ r H', Same H H' → LI H' r (MG.sqI g.vertexCount g.edges) → Q r H'
theorem d_squared_polynomial (T : Nm K mg) (G : GC K C) (d_matching_polynomial : Cl P w K mg base CX0 4 "matching_polynomial" (spMp C)) (D : Df K mg "squared_polynomial" s_squared_polynomial ["graph"]) : Cl P w K mg base CX0 5 "squared_polynomial" (spSq C) := by
  refine D.cl sc_squared_polynomial (fun vs H Q E h => ?_) (fun f cdv A outer s H vs Q E hr h => ?_)
  · obtain ⟨_, _, rfl, _⟩ := h; rfl
  refine ⟨_, (pss_cons (ps_set (i := 1) sc_squared_polynomial.nd rfl (Or.inr rfl) (k_fld (K := K) rfl (pv 0) rfl))
        (pss_cons (ps_set (i := 2) sc_squared_polynomial.nd rfl (Or.inr rfl) (pe_c0 d_matching_polynomial hr (by decide) rfl (pa_cons (pv 0) pa_nil)))
        (pss_one (ps_ret (pe_lc (own := [("i", 3)]) rfl sc_squared_polynomial.nd (pi_range1 rfl T.n_range (pa_cons (pe_op op_add (pe_op op_fdiv (pv 1) pe_int) pe_int) pa_nil)) (blkOk_by (N := ["graph", "n", "some", "i"]) (sc := defScope s_squared_polynomial) (by decide +kernel)) (fun _ _ _ _ _ => pg_name (i := 3) sc_squared_polynomial.nd rfl (Or.inl rfl)) (fun _ _ _ _ _ => pts_nil) (fun _ _ _ _ _ => (pe_ix (k_ixL (K := K) rfl) (pv 2) (pe_op op_add (pe_op op_mul pe_int (pv 3)) (pe_op op_mod (pv 1) pe_int)) (fun _ _ => rfl)))))))), ?_⟩
  obtain ⟨gv, g, rfl, gt, le, ln, q⟩ := h
  obtain ⟨ga, dx, l, rfl, h1, h2⟩ := id gt
  refine ⟨_, rfl, ga, C, dx, _, _, rfl, h1, G.cl, G.nV, lkV, ?_⟩
  refine ⟨_, rfl, .ref ga, g, rfl, gt, le, ln, fun r H1 s1 hr1 => ?_⟩
  obtain ⟨a, rfl, ha⟩ := hr1
  refine ⟨_, rfl, _, _, rfl, rfl, ⟨by decide, by decide⟩, _, _, rfl, rfl, _, rfl, ?_⟩
  have en : (((g.vertexCount : Nat) : Int) / 2 + 1).toNat = g.vertexCount / 2 + 1 := by omega
  refine ⟨by omega, by omega, ?_⟩
  rw [en]
  refine comp_range (fun _ => true) (fun i => (MG.mp g.vertexCount g.edges).getD (2 * i + g.vertexCount % 2) 0) PyData.int (by omega) (fun i H3 D3 acc C2 N2 hi s3 hD3 pT pF => ?_) (fun D3 H3 nD s3 r => ?_)
  · have s4 := s3.trans (hide_same H3 D3)
    refine ⟨rfl, _, rfl, _, rfl, _, _, rfl, rfl, .inl ⟨by decide, by decide⟩, _, rfl, _, _, rfl, rfl, (by show (0 : Int) < 2; decide), _, _, rfl, rfl, ?_⟩
    have e : 2 * ((0 : Int) + (i : Int)) + ((g.vertexCount : Nat) : Int) % 2 = ((2 * i + g.vertexCount % 2 : Nat) : Int) := by omega
    refine ⟨a, _, _, _, rfl, rfl, SqL.of (s4 _ _ ha), ?_, pT rfl _ _ (Same.refl _) (.int _)⟩
    rw [e]
    exact int_at (by rw [MG.mp_len]; omega)
  · rw [filtT] at r
    exact q _ _ (s1.trans s3) (LI.of r)
abbrev s_derivative : Stmt := topS 22
theorem sc_derivative : FnScope ["some", "place"] ["some"] (defScope s_derivative) := ⟨rfl, rfl, rfl, by decide +kernel, rfl, by decide +kernel, by decide +kernel⟩
abbrev derI := MG.derI
def spDer : Sp := fun vs H Q _ => ∃ (v : V) (l : List Int), vs = [v] ∧ LI H v l ∧ l.length ≤ 1000 ∧ ∀ r H', Same H H' → LI H' r (derI l) → Q r H'
theorem d_derivative (T : Nm K mg) (D : Df K mg "derivative" s_derivative ["some"]) : Cl P w K mg base CX0 1 "derivative" spDer := by
  refine D.cl sc_derivative (fun vs H Q E h => ?_) (fun f cdv A outer s H vs Q E hr h => ?_)
  · obtain ⟨_, _, rfl, _⟩ := h; rfl
  refine ⟨_, (pss_one (ps_ret (pe_lc (own := [("place", 1)]) rfl sc_derivative.nd (pi_range2 rfl T.n_range (pa_cons pe_int (pa_cons (pe_callB (k_len (K := K) rfl) rfl T.n_len (by decide +kernel) (pa_cons (pv 0) pa_nil)) pa_nil))) (blkOk_by (N := ["some", "place"]) (sc := defScope s_derivative) (by decide +kernel)) (fun _ _ _ _ _ => pg_name (i := 1) sc_derivative.nd rfl (Or.inl rfl)) (fun _ _ _ _ _ => pts_nil) (fun _ _ _ _ _ => (pe_op op_mul (pv 1) (pe_ix (k_ixL (K := K) rfl) (pv 0) (pv 1) (fun _ _ => rfl))))))), ?_⟩
  obtain ⟨v, l, rfl, ⟨a, rfl, ha⟩, le, q⟩ := h
  refine ⟨_, rfl, a, _, rfl, .inl (SqL.of ha), _, _, rfl, ⟨by decide, by decide, by omega, by rw [List.length_map]; omega⟩, ?_⟩
  have en : (((l.map V.int).length : Int) - 1).toNat = l.length - 1 := by rw [List.length_map]; omega
  rw [en]
  refine comp_range (fun _ => true) (fun i => ((i + 1 : Nat) : Int) * l.getD (i + 1) 0) PyData.int (by omega) (fun i H3 D3 acc C2 N2 hi s3 hD3 pT pF => ?_) (fun D3 H3 nD s3 r => ?_)
  · have s4 := s3.trans (hide_same H3 D3)
    have e : (1 : Int) + (i : Int) = ((i + 1 : Nat) : Int) := by omega
    rw [e]
    refine ⟨rfl, _, rfl, _, rfl, _, rfl, a, _, _, _, rfl, rfl, SqL.of (s4 _ _ ha), int_at (l := l) (by omega), _, _, rfl, rfl, .inl ⟨by omega, by omega⟩, pT rfl _ _ (Same.refl _) (.int _)⟩
  · rw [filtT] at r
    exact q _ _ s3 (LI.of r)
abbrev s_trimmed : Stmt := topS 23
theorem sc_trimmed : FnScope ["some", "found"] ["some"] (defScope s_trimmed) := ⟨rfl, rfl, rfl, by decide +kernel, rfl, by decide +kernel, by decide +kernel⟩
def spTrm : Sp := fun vs H Q _ => ∃ (v : V) (l : List Int), vs = [v] ∧ LI H v l ∧ ∀ t r H', Same H H' → MG.Trm l t → LI H' r t → Q r H'
theorem d_trimmed (T : Nm K mg) (D : Df K mg "trimmed" s_trimmed ["some"]) : Cl P w K mg base CX0 1 "trimmed" spTrm := by
  refine D.cl sc_trimmed (fun vs H Q E h => ?_) (fun f cdv A outer s H vs Q E hr h => ?_)
  · obtain ⟨_, _, rfl, _⟩ := h; rfl
  refine ⟨_, (pss_cons (ps_set (i := 1) sc_trimmed.nd rfl (Or.inl rfl) (pe_callTy call_list_of rfl T.n_list (by decide +kernel) (pa_cons (pv 0) pa_nil)))
        (pss_cons (ps_while PassesOwn.never (PW.pt (pw_and (pt_cmpR (k_neD (K := K) rfl hr.units) (pv 1) (pe_lst pa_nil) (nomark _)) (pw_and1 (pt_cmpR (op_eq) (pe_ix (k_ixL (K := K) rfl) (pv 1) (pe_un un_neg pe_int) (fun _ _ => rfl)) pe_int (nomark _))))) (pss_one (ps_expr (pe_bm0 PySem.F.plainAttrs_list PySem.F.slot_list_pop PySem.F.type_list_pop mt_pop (pv 1)))))
        (pss_one (ps_ret (pv 1))))), ?_⟩
  obtain ⟨v, l, rfl, ⟨a, rfl, ha⟩, q⟩ := h
  refine ⟨_, rfl, a, _, rfl, .inl (SqL.of ha), fun F hF => ?_⟩
  refine ⟨fun m σ H2 => ∃ t, m = t.length ∧ σ = [some (.ref a), some (.ref F)] ∧ Same H H2 ∧ H2 F = some (.lst (t.map V.int)) ∧ ∃ j, l = t ++ List.replicate j 0, ⟨_, l, rfl, rfl, same_upd hF, upd_same, 0, by simp⟩, ?_⟩
  rintro m σ H2 ⟨t, rfl, rfl, s2, hF2, j, hj⟩
  refine ⟨_, rfl, small5' (by show 0 ≤ 16000000; decide), fun p hp => ?_⟩
  have s3 := same_upd (o := HO.lst []) hp
  refine ⟨_, _, (LI.rp (ns := t) ⟨F, rfl, s3 _ _ hF2⟩).dp, (Rp.lst (ds := []) upd_same .nil).dp, ints_shaped t, ints_shaped [], _, rfl, ?_⟩
  refine ifb (ints_nil t) (fun c => ?_) (fun c => ?_)
  · have pos : 0 < t.length := by
      cases t with
      | nil => simp at c
      | cons _ _ => simp
    refine ⟨_, rfl, _, rfl, F, _, _, _, rfl, rfl, SqL.of (s3 _ _ hF2), lst_at pos, rfl, _, rfl, ?_⟩
    refine ifb (b := decide (MG.lst t = 0)) (by by_cases z : MG.lst t = 0 <;> simp [z]) (fun d => ?_) (fun d => ?_)
    · have z := of_decide_eq_true d
      have e : t = t.dropLast ++ [0] := by
        have ne : t ≠ [] := fun y => by rw [y] at pos; simp at pos
        have k := (List.dropLast_concat_getLast ne).symm
        have : t.getLast ne = 0 := by
          rw [List.getLast_eq_getElem]
          unfold MG.lst at z
          rw [List.getD_eq_getElem?_getD, List.getElem?_eq_getElem (by omega)] at z
          exact z
        rw [this] at k
        exact k
      have s4 : Same H (upd (upd H2 p (.lst [])) F (.lst (t.map V.int).dropLast)) := fun b o hb => by
        rw [upd_ne (ne_of_none hb hF)]; exact s3 _ _ (s2 _ _ hb)
      refine ⟨fun σ' H' => ∃ m', m' < t.length ∧ ∃ t', m' = t'.length ∧ σ' = [some (.ref a), some (.ref F)] ∧ Same H H' ∧ H' F = some (.lst (t'.map V.int)) ∧ ∃ j, l = t' ++ List.replicate j 0, fun _ _ h => h, ?_⟩
      refine ⟨_, rfl, .inl ⟨rfl, _, SqL.of (s3 _ _ hF2)⟩, F, t.map V.int, .int (MG.lst t), rfl, rfl, s3 _ _ hF2, ?_, ?_⟩
      · rw [List.length_map, List.getElem?_map, MG.lst, List.getD_eq_getElem?_getD, List.getElem?_eq_getElem (by omega)]; rfl
      · refine ⟨_, by rw [e] at pos ⊢; simp, t.dropLast, rfl, rfl, s4, by rw [upd_same, List.map_dropLast], j + 1, ?_⟩
        rw [hj, List.replicate_succ]
        have : t ++ List.replicate j 0 = (t.dropLast ++ [0]) ++ List.replicate j 0 := by rw [← e]
        rw [this, List.append_assoc]; rfl
    · refine ⟨_, rfl, q t _ _ (s2.trans s3) ⟨⟨j, hj⟩, .inr (of_decide_eq_false d)⟩ ⟨F, rfl, s3 _ _ hF2⟩⟩
  · have : t = [] := by
      cases t with
      | nil => rfl
      | cons _ _ => simp at c
    subst this
    exact ⟨_, rfl, q [] _ _ (s2.trans s3) ⟨⟨j, hj⟩, .inl rfl⟩ ⟨F, rfl, s3 _ _ hF2⟩⟩
end
end WK

-- part W9
set_option maxRecDepth 100000
set_option maxHeartbeats 4000000
namespace WK
open PySem PySem.Spec PyProof.Rows L2
/-! ## The chain -/
/-- every coefficient below 2 ^ A -/
def Bt (A : Nat) (l : List Int) : Prop := ∀ c, c ∈ l → c.natAbs < 2 ^ A
theorem Bt.mono {A B : Nat} {l : List Int} (h : Bt A l) (hAB : A ≤ B) : Bt B l := fun c hc => Nat.lt_of_lt_of_le (h c hc) (Nat.pow_le_pow_right (by decide) hAB)
theorem Bt.getD {A : Nat} {l : List Int} (h : Bt A l) (i : Nat) : (l.getD i 0).natAbs < 2 ^ A := by
  rw [List.getD_eq_getElem?_getD]
  cases e : l[i]? with
  | none => exact Nat.two_pow_pos A
  | some c => exact h c (List.mem_of_getElem? e)
theorem Bt.lst {A : Nat} {l : List Int} (h : Bt A l) : (MG.lst l).natAbs < 2 ^ A := h.getD _
theorem mul_bt {a b : Int} {A B : Nat} (ha : a.natAbs < 2 ^ A) (hb : b.natAbs < 2 ^ B) : (a * b).natAbs < 2 ^ (A + B) := by
  rw [Int.natAbs_mul, Nat.pow_add]
  exact Nat.mul_lt_mul'' ha hb
theorem sub_bt {a b : Int} {A : Nat} (ha : a.natAbs < 2 ^ A) (hb : b.natAbs < 2 ^ A) : (a - b).natAbs < 2 ^ (A + 1) := by
  have := Nat.pow_succ 2 A
  omega
theorem Bt.red {A B : Nat} {l q t : List Int} (hl : Bt A l) (hq : Bt B q) (ht : MG.Trm (MG.redI l q) t) : Bt (A + B + 1) t := fun c hc => by
  obtain ⟨j, e⟩ := ht.app
  have hc2 : c ∈ MG.redI l q := by rw [e]; exact List.mem_append_left _ hc
  unfold MG.redI at hc2
  obtain ⟨i, _, rfl⟩ := List.mem_map.mp hc2
  refine sub_bt (mul_bt (hl.getD i) hq.lst) (mul_bt hl.lst ?_)
  split
  · exact Nat.two_pow_pos B
  · exact hq.getD _
theorem Bt.neg {A : Nat} {l : List Int} (h : Bt A l) : Bt A (MG.ngI l) := fun c hc => by
  obtain ⟨i, hi, rfl⟩ := List.mem_map.mp hc
  rw [Int.natAbs_neg]
  exact h i hi
section
variable {P : Program} {w : World} {K : PySem.W.Frag} {mg : Str → Option Value} {base : Heap} {C : Addr}
abbrev s_reduced : Stmt := topS 24
theorem sc_reduced : FnScope ["some", "other", "moved", "one", "two"] ["some", "other"] (defScope s_reduced) := ⟨rfl, rfl, rfl, by decide +kernel, rfl, by decide +kernel, by decide +kernel⟩
def spRed : Sp := fun vs H Q _ => ∃ (v u : V) (l q : List Int) (A B : Nat), vs = [v, u] ∧ LI H v l ∧ LI H u q ∧ 0 < q.length ∧ q.length ≤ l.length ∧ l.length ≤ 1000 ∧ Bt A l ∧ Bt B q ∧ 0 < A ∧ 0 < B ∧ A + B ≤ 1000000 ∧ ∀ t r H', Same H H' → MG.Trm (MG.redI l q) t → LI H' r t → Q r H'
theorem moved_get {l q : List Int} (h : q.length ≤ l.length) {i : Nat} {y : V} (e : (List.replicate (l.length - q.length) (V.int 0) ++ q.map V.int)[i]? = some y) : y = .int (if i < l.length - q.length then 0 else q.getD (i - (l.length - q.length)) 0) := by
  rw [List.getElem?_append, List.length_replicate] at e
  by_cases c : i < l.length - q.length
  · rw [if_pos c, List.getElem?_replicate, if_pos c] at e
    rw [if_pos c]; exact (Option.some.inj e).symm
  · rw [if_neg c] at e ⊢
    obtain ⟨x, hx, rfl⟩ := map_get e
    rw [List.getD_eq_getElem?_getD, hx]; rfl
theorem d_reduced (T : Nm K mg) (d_trimmed : Cl P w K mg base CX0 1 "trimmed" spTrm) (D : Df K mg "reduced" s_reduced ["some", "other"]) : Cl P w K mg base CX0 2 "reduced" spRed := by
  refine D.cl sc_reduced (fun vs H Q E h => ?_) (fun f cdv A outer s H vs Q E hr h => ?_)
  · obtain ⟨_, _, _, _, _, _, rfl, _⟩ := h; rfl
  refine ⟨_, (pss_cons (ps_set (i := 2) sc_reduced.nd rfl (Or.inl rfl) (pe_op op_cat (pe_op op_rep (pe_lst (pa_cons pe_int pa_nil)) (pe_op op_sub (pe_callB (k_len (K := K) rfl) rfl T.n_len (by decide +kernel) (pa_cons (pv 0) pa_nil)) (pe_callB (k_len (K := K) rfl) rfl T.n_len (by decide +kernel) (pa_cons (pv 1) pa_nil)))) (pv 1)))
        (pss_one (ps_ret (pe_c0 d_trimmed hr (by decide) rfl (pa_cons (pe_lc (own := [("one", 3), ("two", 4)]) rfl sc_reduced.nd (pi_zip rfl T.n_zip (pa_cons (pv 0) (pa_cons (pv 2) pa_nil))) (blkOk_by (N := ["some", "other", "moved", "one", "two"]) (sc := defScope s_reduced) (by decide +kernel)) (fun _ _ _ _ _ => k_tup (K := K) (n := 2) rfl rfl (pgs_cons (pg_name (i := 3) sc_reduced.nd rfl (Or.inl rfl)) (pgs_cons (pg_name (i := 4) sc_reduced.nd rfl (Or.inl rfl)) pgs_nil))) (fun _ _ _ _ _ => pts_nil) (fun _ _ _ _ _ => (pe_op op_sub (pe_op op_mulW (pv 3) (pe_ix (k_ixL (K := K) rfl) (pv 1) (pe_un un_neg pe_int) (fun _ _ => rfl))) (pe_op op_mulW (pe_ix (k_ixL (K := K) rfl) (pv 0) (pe_un un_neg pe_int) (fun _ _ => rfl)) (pv 4))))) pa_nil))))), ?_⟩
  obtain ⟨v, u, l, q, A, B, rfl, ⟨a, rfl, ha⟩, ⟨b, rfl, hb⟩, hq0, hql, le, bA, bB, A0, B0, AB, q0⟩ := h
  refine ⟨small5' (by show 1 ≤ 16000000; decide), fun p hp => ?_⟩
  have s1 := same_upd (o := HO.lst [.int 0]) hp
  refine ⟨_, rfl, a, _, rfl, .inl (SqL.of (s1 _ _ ha)), _, rfl, b, _, rfl, .inl (SqL.of (s1 _ _ hb)), _, _, rfl, rfl, ?_⟩
  have en : (((l.map V.int).length : Int) - ((q.map V.int).length : Int)).toNat = l.length - q.length := by rw [List.length_map, List.length_map]; omega
  refine ⟨p, _, _, rfl, rfl, upd_same, by rw [List.length_map, List.length_map]; omega, by rw [List.length_map, List.length_map]; omega, ?_, fun p2 hp2 => ?_⟩
  · rw [en]; exact small5' (by show 1 * (l.length - q.length) ≤ 16000000; omega)
  rw [en, flat_rep]
  have s2 := s1.trans (same_upd (o := HO.lst (List.replicate (l.length - q.length) (.int 0))) hp2)
  refine ⟨_, rfl, p2, b, _, _, rfl, rfl, upd_same, s2 _ _ hb, ?_, fun M hM => ?_⟩
  · rw [List.length_replicate, List.length_map]; exact small5' (by omega)
  have s3 := s2.trans (same_upd (o := HO.lst (List.replicate (l.length - q.length) (.int 0) ++ q.map V.int)) hM)
  refine ⟨_, rfl, _, rfl, a, M, _, _, rfl, SqL.of (s3 _ _ ha), SqL.of upd_same, ?_⟩
  refine comp_it (n := l.length) (walk_zip (by rw [List.length_append, List.length_replicate, List.length_map, List.length_map]; omega)) (fun i => l.getD i 0 * MG.lst q - MG.lst l * (if i < l.length - q.length then 0 else q.getD (i - (l.length - q.length)) 0)) PyData.int (fun H s => ⟨SqL.of (s _ _ (s3 _ _ ha)), SqL.of (s _ _ upd_same)⟩) (by omega) (fun i x H2 H3 D acc C2 N2 hi s4 hD hy pT => ?_) (fun D H2 nD s4 r => ?_)
  · obtain ⟨T0, x0, y0, rfl, hT, rfl, e1, e2⟩ := hy
    have ex : x0 = .int (l.getD i 0) := by
      obtain ⟨z, hz, rfl⟩ := map_get e1
      rw [List.getD_eq_getElem?_getD, hz]; rfl
    have ey := moved_get hql e2
    subst ex ey
    have s5 := (s3.trans (s4.trans (hide_same H2 D))).trans (same_upd (o := HO.tup [.int (l.getD i 0), .int (if i < l.length - q.length then 0 else q.getD (i - (l.length - q.length)) 0)]) hT)
    refine ⟨T0, _, rfl, SqT.of upd_same, rfl, _, _, rfl, _, _, rfl, rfl, rfl, ?_⟩
    refine ⟨_, rfl, _, rfl, _, rfl, b, _, _, _, rfl, rfl, SqL.of (s5 _ _ hb), lst_at hq0, ?_⟩
    refine ⟨_, _, rfl, rfl, wide_mul (bA.getD i) bB.lst A0 B0 AB, ?_⟩
    refine ⟨_, rfl, _, rfl, a, _, _, _, rfl, rfl, SqL.of (s5 _ _ ha), lst_at (by omega), _, rfl, ?_⟩
    refine ⟨_, _, rfl, rfl, wide_mul bA.lst (b := B) ?_ A0 B0 AB, _, _, rfl, rfl, pT _ _ (same_upd hT) (.int _)⟩
    split
    · exact Nat.two_pow_pos B
    · exact bB.getD _
  · refine ⟨_, _, rfl, LI.of r, fun t r2 H4 s6 ht hr2 => q0 t r2 H4 ((s3.trans s4).trans s6) ht hr2⟩
abbrev s_negated_remainder : Stmt := topS 25
theorem sc_negated_remainder : FnScope ["some", "other", "rest", "one"] ["some", "other"] (defScope s_negated_remainder) := ⟨rfl, rfl, rfl, by decide +kernel, rfl, by decide +kernel, by decide +kernel⟩
def spNeg : Sp := fun vs H Q _ => ∃ (v u : V) (l q : List Int) (A B : Nat), vs = [v, u] ∧ LI H v l ∧ LI H u q ∧ 0 < q.length ∧ l.length = q.length + 1 ∧ l.length ≤ 1000 ∧ Bt A l ∧ Bt B q ∧ 0 < A ∧ 0 < B ∧ A + 2 * (B + 1) + B ≤ 1000000 ∧ ∀ t r H', Same H H' → MG.Rdc q l t → Bt (A + 2 * (B + 1)) t → LI H' r (MG.ngI t) → Q r H'
theorem d_negated_remainder (T : Nm K mg) (d_reduced : Cl P w K mg base CX0 2 "reduced" spRed) (D : Df K mg "negated_remainder" s_negated_remainder ["some", "other"]) : Cl P w K mg base CX0 3 "negated_remainder" spNeg := by
  refine D.cl sc_negated_remainder (fun vs H Q E h => ?_) (fun f cdv A outer s H vs Q E hr h => ?_)
  · obtain ⟨_, _, _, _, _, _, rfl, _⟩ := h; rfl
  refine ⟨_, (pss_cons (ps_set (i := 2) sc_negated_remainder.nd rfl (Or.inl rfl) (pv 0))
        (pss_cons (ps_while PassesOwn.never (pt_cmpR (op_ge) (pe_callB (k_len (K := K) rfl) rfl T.n_len (by decide +kernel) (pa_cons (pv 2) pa_nil)) (pe_callB (k_len (K := K) rfl) rfl T.n_len (by decide +kernel) (pa_cons (pv 1) pa_nil)) (nomark _)) (pss_one (ps_set (i := 2) sc_negated_remainder.nd rfl (Or.inl rfl) (pe_c0 d_reduced hr (by decide) rfl (pa_cons (pv 2) (pa_cons (pv 1) pa_nil))))))
        (pss_one (ps_ret (pe_lc (own := [("one", 3)]) rfl sc_negated_remainder.nd (pi_list (pv 2)) (blkOk_by (N := ["some", "other", "rest", "one"]) (sc := defScope s_negated_remainder) (by decide +kernel)) (fun _ _ _ _ _ => pg_name (i := 3) sc_negated_remainder.nd rfl (Or.inl rfl)) (fun _ _ _ _ _ => pts_nil) (fun _ _ _ _ _ => (pe_un un_neg (pv 3)))))))), ?_⟩
  obtain ⟨v, u, l, q, A, B, rfl, ⟨a, rfl, ha⟩, ⟨b, rfl, hb⟩, hq0, hql, le, bA, bB, A0, B0, AB, q0⟩ := h
  refine ⟨_, rfl, ?_⟩
  refine ⟨fun m σ H2 => ∃ t c k, m = t.length ∧ σ = [some (.ref a), some (.ref b), some (.ref c), none] ∧ Same H H2 ∧ H2 c = some (.lst (t.map V.int)) ∧ k + t.length ≤ l.length ∧ k ≤ 2 ∧ Bt (A + k * (B + 1)) t ∧ ∀ r, MG.Rdc q t r → MG.Rdc q l r, ⟨_, l, a, 0, rfl, rfl, Same.refl _, ha, by omega, by omega, bA.mono (by omega), fun r h => h⟩, ?_⟩
  rintro m σ H2 ⟨t, c, k, rfl, rfl, s2, hc, kt, k2, bt, cont⟩
  refine ⟨_, rfl, c, _, rfl, .inl (SqL.of hc), _, rfl, b, _, rfl, .inl (SqL.of (s2 _ _ hb)), _, _, rfl, rfl, _, rfl, ?_⟩
  refine ifb (b := decide (q.length ≤ t.length)) (by rw [List.length_map, List.length_map]; by_cases z : q.length ≤ t.length <;> simp [z]) (fun d => ?_) (fun d => ?_)
  · have d2 := of_decide_eq_true d
    refine ⟨fun σ' H' => ∃ m', m' < t.length ∧ ∃ t' c' k', m' = t'.length ∧ σ' = [some (.ref a), some (.ref b), some (.ref c'), none] ∧ Same H H' ∧ H' c' = some (.lst (t'.map V.int)) ∧ k' + t'.length ≤ l.length ∧ k' ≤ 2 ∧ Bt (A + k' * (B + 1)) t' ∧ ∀ r, MG.Rdc q t' r → MG.Rdc q l r, fun _ _ h => h, ?_⟩
    have k1 : k ≤ 1 := by omega
    have kB : k * (B + 1) ≤ 1 * (B + 1) := Nat.mul_le_mul_right _ k1
    refine ⟨_, rfl, _, rfl, _, _, t, q, A + k * (B + 1), B, rfl, ⟨c, rfl, hc⟩, ⟨b, rfl, s2 _ _ hb⟩, hq0, d2, by omega, bt, bB, by omega, B0, by omega, fun t2 r H3 s3 ht hr3 => ?_⟩
    obtain ⟨c2, rfl, hc2⟩ := hr3
    have lt := MG.red_lt hq0 d2 ht
    refine ⟨t2.length, lt, t2, c2, k + 1, rfl, rfl, s2.trans s3, hc2, by omega, by omega, ?_, fun r h => cont r (.step d2 ht h)⟩
    have := bt.red bB ht
    have e : A + k * (B + 1) + B + 1 = A + (k + 1) * (B + 1) := by rw [Nat.succ_mul]; omega
    rwa [e] at this
  · have d2 := of_decide_eq_false d
    refine ⟨_, rfl, c, rfl, ⟨_, SqL.of hc⟩, ?_⟩
    refine comp_list t PyData.int (fun _ => true) (fun a => -a) PyData.int (SqL.of hc) (RpA.of_ints t) (by omega) (fun x y H3 D acc C2 N2 hx s3 hD hy pT pF => ?_) (fun D H3 nD s3 r => ?_)
    · cases hy
      exact ⟨rfl, _, rfl, _, rfl, pT rfl _ _ (Same.refl _) (.int _)⟩
    · rw [filtT] at r
      have fin := cont t (.stop (by omega))
      exact q0 t _ _ (s2.trans s3) fin (bt.mono (Nat.add_le_add_left (Nat.mul_le_mul_right _ k2) _)) (LI.of r)
abbrev s_is_full_chain : Stmt := topS 26
theorem sc_is_full_chain : FnScope ["some", "other"] ["some", "other"] (defScope s_is_full_chain) := ⟨rfl, rfl, rfl, by decide +kernel, rfl, by decide +kernel, by decide +kernel⟩
def FullPre (l q : List Int) : Prop := q = [] ∨ ∃ m A, MG.CD m (MG.tz l) (MG.tz q) ∧ 0 < A ∧ Bt A l ∧ Bt A q ∧ (A + 1) * 3 ^ m ≤ 100000 ∧ m ≤ 900
def spFull : Sp := fun vs H Q _ => ∃ (v u : V) (l q : List Int), vs = [v, u] ∧ LI H v l ∧ LI H u q ∧ FullPre l q ∧ ∀ H', Same H H' → Q (.bl true) H'
theorem d_is_full_chain (T : Nm K mg) (d_negated_remainder : Cl P w K mg base CX0 3 "negated_remainder" spNeg) (D : Df K mg "is_full_chain" s_is_full_chain ["some", "other"]) : Cl P w K mg base CX0 4 "is_full_chain" spFull := by
  refine D.cl sc_is_full_chain (fun vs H Q E h => ?_) (fun f cdv A outer s H vs Q E hr h => ?_)
  · obtain ⟨_, _, _, _, rfl, _⟩ := h; rfl
  refine ⟨_, (pss_cons (ps_while PassesOwn.never (pt_cmpR (k_neD (K := K) rfl hr.units) (pv 1) (pe_lst pa_nil) (nomark _)) (pss_cons (ps_if (PW.pt (pw_or (pt_cmpR (op_ne) (pe_callB (k_len (K := K) rfl) rfl T.n_len (by decide +kernel) (pa_cons (pv 1) pa_nil)) (pe_op op_sub (pe_callB (k_len (K := K) rfl) rfl T.n_len (by decide +kernel) (pa_cons (pv 0) pa_nil)) pe_int) (nomark _)) (pw_or1 (pt_cmpR (op_le) (pe_ix (k_ixL (K := K) rfl) (pv 1) (pe_un un_neg pe_int) (fun _ _ => rfl)) pe_int (nomark _))))) (pss_one (ps_ret pe_bl)) pss_nil)
        (pss_one (ps_par (i := 0) (j := 1) (by rfl) sc_is_full_chain.nd rfl rfl (by decide) rfl rfl (pa_cons (pv 1) (pa_cons (pe_c0 d_negated_remainder hr (by decide) rfl (pa_cons (pv 0) (pa_cons (pv 1) pa_nil))) pa_nil)) (by rfl)))))
        (pss_one (ps_ret pe_bl))), ?_⟩
  obtain ⟨v, u, l, q, rfl, hv, hu, pre, q0⟩ := h
  refine ⟨fun n σ H2 => ∃ v u l q, n = q.length ∧ σ = [some v, some u] ∧ Same H H2 ∧ LI H2 v l ∧ LI H2 u q ∧ FullPre l q, ⟨_, v, u, l, q, rfl, rfl, Same.refl _, hv, hu, pre⟩, ?_⟩
  clear hv hu pre l q
  rintro n σ H2 ⟨v, u, l, q, rfl, rfl, s2, ⟨a, rfl, ha⟩, ⟨b, rfl, hb⟩, pre⟩
  refine ⟨_, rfl, small5' (by show 0 ≤ 16000000; decide), fun p hp => ?_⟩
  have s3 := same_upd (o := HO.lst []) hp
  refine ⟨_, _, (LI.rp (ns := q) ⟨b, rfl, s3 _ _ hb⟩).dp, (Rp.lst (ds := []) upd_same .nil).dp, ints_shaped q, ints_shaped [], _, rfl, ?_⟩
  refine ifb (ints_nil q) (fun c => ?_) (fun c => ?_)
  · rcases pre with z | ⟨m, B, cd, B0, bl, bq, bnd, m9⟩
    · rw [z] at c; simp at c
    obtain ⟨ll, lq, top⟩ := MG.cd_last cd
    refine ⟨fun σ' H' => ∃ m', m' < q.length ∧ ∃ v u l q, m' = q.length ∧ σ' = [some v, some u] ∧ Same H H' ∧ LI H' v l ∧ LI H' u q ∧ FullPre l q, fun _ _ h => h, ?_⟩
    refine ⟨_, rfl, b, _, rfl, .inl (SqL.of (s3 _ _ hb)), _, rfl, a, _, rfl, .inl (SqL.of (s3 _ _ ha)), _, _, rfl, rfl, rfl, _, rfl, ?_⟩
    refine ifb (b := false) (by
      have : decide (V.int ((q.map V.int).length : Int) = V.int (((l.map V.int).length : Int) - 1)) = true := decide_eq_true (by rw [List.length_map, List.length_map, ll, lq]; congr 1; omega)
      rw [this]; rfl) (fun z => absurd z (by decide)) (fun _ => ?_)
    refine ⟨_, rfl, _, rfl, b, _, _, _, rfl, rfl, SqL.of (s3 _ _ hb), lst_at (by omega), _, _, rfl, rfl, _, rfl, ?_⟩
    refine ifb (b := false) (decide_eq_false (by omega)) (fun z => absurd z (by decide)) (fun _ => ?_)
    refine ⟨_, rfl, _, rfl, _, rfl, _, _, l, q, B, B, rfl, ⟨a, rfl, s3 _ _ ha⟩, ⟨b, rfl, s3 _ _ hb⟩, by omega, by omega, by omega, bl, bq, B0, B0, ?_, fun t r H3 s4 hr bt hr3 => ?_⟩
    · have : (B + 1) * 1 ≤ (B + 1) * 3 ^ m := Nat.mul_le_mul_left _ (Nat.one_le_pow _ _ (by decide))
      omega
    · have len : (MG.ngI t).length < q.length := by
        have := (hr.two (by omega) (by omega)).2.1
        unfold MG.ngI
        rw [List.length_map]; exact this
      refine ⟨_, _, rfl, _, len, _, _, q, _, rfl, rfl, (s2.trans s3).trans s4, ⟨b, rfl, s4 _ _ (s3 _ _ hb)⟩, hr3, ?_⟩
      rcases MG.full_step cd hr with z | ⟨k, rfl, ck⟩
      · exact .inl z
      · refine .inr ⟨k, B + 2 * (B + 1), ck, by omega, bq.mono (by omega), bt.neg, ?_, by omega⟩
        have e2 : B + 2 * (B + 1) + 1 = (B + 1) * 3 := by omega
        have e : (B + 2 * (B + 1) + 1) * 3 ^ k = (B + 1) * 3 ^ (k + 1) := by rw [Nat.pow_succ, e2, Nat.mul_assoc, Nat.mul_comm 3]
        rw [e]; exact bnd
  · exact q0 _ (s2.trans s3)
abbrev s_is_real_rooted : Stmt := topS 27
theorem sc_is_real_rooted : FnScope ["some"] ["some"] (defScope s_is_real_rooted) := ⟨rfl, rfl, rfl, by decide +kernel, rfl, by decide +kernel, by decide +kernel⟩
def RealPre (l : List Int) : Prop := ∃ rs A, MG.Sp (MG.tz l) rs ∧ Bt A l ∧ (A + 11) * 3 ^ (l.length - 2) ≤ 100000 ∧ l.length ≤ 900
def spReal : Sp := fun vs H Q _ => ∃ (v : V) (l : List Int), vs = [v] ∧ LI H v l ∧ RealPre l ∧ ∀ H', Same H H' → Q (.bl true) H'
theorem Bt.der {A : Nat} {l : List Int} (h : Bt A l) (le : l.length ≤ 900) : Bt (A + 10) (derI l) := fun c hc => by
  unfold derI at hc
  obtain ⟨i, hi, rfl⟩ := List.mem_map.mp hc
  have hi2 := List.mem_range.mp hi
  have e10 : A + 10 = 10 + A := Nat.add_comm _ _
  rw [e10]
  refine mul_bt ?_ (h.getD _)
  have : (((i + 1 : Nat) : Int)).natAbs = i + 1 := Int.natAbs_natCast _
  rw [this]
  have : (2 : Nat) ^ 10 = 1024 := by decide
  omega
theorem RealPre.full {l : List Int} (h : RealPre l) : FullPre l (derI l) := by
  obtain ⟨rs, A, sp, bt, bnd, le⟩ := h
  rcases MG.der_cd sp with z | ⟨m, cd, lm⟩
  · exact .inl z
  · refine .inr ⟨m, A + 10, cd, by omega, bt.mono (by omega), bt.der le, Nat.le_trans (Nat.mul_le_mul_left _ (Nat.pow_le_pow_right (by decide) (by omega : m ≤ l.length - 2))) bnd, by omega⟩
theorem d_is_real_rooted (T : Nm K mg) (d_derivative : Cl P w K mg base CX0 1 "derivative" spDer) (d_is_full_chain : Cl P w K mg base CX0 4 "is_full_chain" spFull) (D : Df K mg "is_real_rooted" s_is_real_rooted ["some"]) : Cl P w K mg base CX0 5 "is_real_rooted" spReal := by
  refine D.cl sc_is_real_rooted (fun vs H Q E h => ?_) (fun f cdv A outer s H vs Q E hr h => ?_)
  · obtain ⟨_, _, rfl, _⟩ := h; rfl
  refine ⟨_, (pss_one (ps_ret (pe_c0 d_is_full_chain hr (by decide) rfl (pa_cons (pv 0) (pa_cons (pe_c0 d_derivative hr (by decide) rfl (pa_cons (pv 0) pa_nil)) pa_nil))))), ?_⟩
  obtain ⟨v, l, rfl, hv, pre, q0⟩ := h
  refine ⟨_, rfl, _, rfl, v, l, rfl, hv, by obtain ⟨_, _, _, _, _, h⟩ := pre; omega, fun r H1 s1 hr1 => ?_⟩
  exact ⟨_, _, l, derI l, rfl, hv.mono s1, hr1, pre.full, fun H2 s2 => q0 _ (s1.trans s2)⟩
abbrev s_interlaces : Stmt := topS 28
theorem sc_interlaces : FnScope ["other", "some"] ["other", "some"] (defScope s_interlaces) := ⟨rfl, rfl, rfl, by decide +kernel, rfl, by decide +kernel, by decide +kernel⟩
def spInter : Sp := fun vs H Q _ => ∃ (v u : V) (q l : List Int), vs = [v, u] ∧ LI H v q ∧ LI H u l ∧ RealPre l ∧ RealPre q ∧ FullPre l q ∧ ∀ H', Same H H' → Q (.bl true) H'
theorem d_interlaces (T : Nm K mg) (d_is_real_rooted : Cl P w K mg base CX0 5 "is_real_rooted" spReal) (d_is_full_chain : Cl P w K mg base CX0 4 "is_full_chain" spFull) (D : Df K mg "interlaces" s_interlaces ["other", "some"]) : Cl P w K mg base CX0 6 "interlaces" spInter := by
  refine D.cl sc_interlaces (fun vs H Q E h => ?_) (fun f cdv A outer s H vs Q E hr h => ?_)
  · obtain ⟨_, _, _, _, rfl, _⟩ := h; rfl
  refine ⟨_, (pss_one (ps_ret (pe_and (pe_c0 d_is_real_rooted hr (by decide) rfl (pa_cons (pv 1) pa_nil)) (pe_and (pe_c0 d_is_real_rooted hr (by decide) rfl (pa_cons (pv 0) pa_nil)) (pe_one (pe_c0 d_is_full_chain hr (by decide) rfl (pa_cons (pv 1) (pa_cons (pv 0) pa_nil)))))))), ?_⟩
  obtain ⟨v, u, q, l, rfl, hv, hu, p1, p2, p3, q0⟩ := h
  refine ⟨_, rfl, u, l, rfl, hu, p1, fun H1 s1 => ?_⟩
  refine ⟨_, rfl, ?_⟩
  refine ⟨_, rfl, v, q, rfl, hv.mono s1, p2, fun H2 s2 => ?_⟩
  refine ⟨_, rfl, ?_⟩
  exact ⟨_, rfl, _, rfl, u, v, l, q, rfl, (hu.mono s1).mono s2, (hv.mono s1).mono s2, p3, fun H3 s3 => q0 _ ((s1.trans s2).trans s3)⟩
end
end WK

-- part W10
set_option maxRecDepth 100000
set_option maxHeartbeats 4000000
namespace WK
open PySem PySem.Spec PyProof.Rows L2
theorem bt64 {l : List Int} (h : Bt 64 l) (i : Nat) : -(2 ^ 64) < l.getD i 0 ∧ l.getD i 0 < 2 ^ 64 := by
  have := h.getD i
  omega
theorem rev_get {l : List Int} {i : Nat} {x : V} (h : (l.map V.int).reverse[i]? = some x) : i < l.length ∧ x = .int (l.getD (l.length - 1 - i) 0) := by
  have hi : i < l.length := by
    obtain ⟨h, _⟩ := List.getElem?_eq_some_iff.mp h
    simpa using h
  rw [List.getElem?_reverse (by rw [List.length_map]; exact hi), List.length_map] at h
  obtain ⟨z, hz, rfl⟩ := map_get h
  exact ⟨hi, by rw [List.getD_eq_getElem?_getD, hz]; rfl⟩
section
variable {P : Program} {w : World} {K : PySem.W.Frag} {mg : Str → Option Value} {base : Heap} {C : Addr}
abbrev s_scaled : Stmt := topS 29
theorem sc_scaled : FnScope ["some", "factor", "found", "weight", "one"] ["some", "factor"] (defScope s_scaled) := ⟨rfl, rfl, rfl, by decide +kernel, rfl, by decide +kernel, by decide +kernel⟩
def spScl : Sp := fun vs H Q _ => ∃ (v : V) (l : List Int) (d : Int), vs = [v, .int d] ∧ LI H v l ∧ Bt 64 l ∧ -(2 ^ 64) < d ∧ d < 2 ^ 64 ∧ l.length ≤ 1000 ∧ ∀ r H', Same H H' → LI H' r (MG.scl d l) → Q r H'
theorem d_scaled (T : Nm K mg) (D : Df K mg "scaled" s_scaled ["some", "factor"]) : Cl P w K mg base CX0 1 "scaled" spScl := by
  refine D.cl sc_scaled (fun vs H Q E h => ?_) (fun f cdv A outer s H vs Q E hr h => ?_)
  · obtain ⟨_, _, _, rfl, _⟩ := h; rfl
  refine ⟨_, (pss_cons (ps_set (i := 2) sc_scaled.nd rfl (Or.inl rfl) (pe_lst pa_nil))
        (pss_cons (ps_set (i := 3) sc_scaled.nd rfl (Or.inl rfl) pe_int)
        (pss_cons (ps_for PassesOwn.never rfl (pi_list (pe_revL (pv 0))) (pg_name (i := 4) sc_scaled.nd rfl (Or.inl rfl)) (pss_cons (ps_expr (pe_bm PySem.F.plainAttrs_list PySem.F.slot_list_append PySem.F.type_list_append mt_append (pv 2) (pa_cons (pe_op op_mul (pv 4) (pv 3)) pa_nil)))
        (pss_one (ps_set (i := 3) sc_scaled.nd rfl (Or.inl rfl) (pe_op op_mul (pv 3) (pv 1))))))
        (pss_one (ps_ret (pe_revL (pv 2))))))), ?_⟩
  obtain ⟨v, l, d, rfl, ⟨a, rfl, ha⟩, bt, d1, d2, le, q⟩ := h
  refine ⟨small5' (by show 0 ≤ 16000000; decide), fun F hF => ?_⟩
  have s1 := same_upd (o := HO.lst []) hF
  refine ⟨_, rfl, a, _, rfl, SqL.of (s1 _ _ ha), fun R hR => ?_⟩
  have nFR : F ≠ R := ne_of_none upd_same hR
  refine ⟨R, rfl, ⟨_, SqL.of upd_same⟩, ?_⟩
  refine for_list (xs := (l.map V.int).reverse) (fun i σ H2 => ∃ w0, σ = [some (.ref a), some (.int d), some (.ref F), some (.int (d ^ i)), w0] ∧ Same H H2 ∧ H2 R = some (.lst (l.map V.int).reverse) ∧ H2 F = some (.lst (((List.range i).map fun j => l.getD (l.length - 1 - j) 0 * d ^ j).map V.int))) ?_ ?_ ?_ ?_
  · exact ⟨none, by rw [Int.pow_zero]; rfl, s1.trans (same_upd hR), upd_same, by rw [upd_ne nFR, upd_same]; rfl⟩
  · rintro i σ H2 hi ⟨w0, rfl, s2, hR2, _⟩
    exact SqL.of hR2
  · rintro i x σ H2 hx ⟨w0, rfl, s2, hR2, hF2⟩
    obtain ⟨hi, rfl⟩ := rev_get hx
    refine ⟨_, rfl, .inl ⟨rfl, _, SqL.of hF2⟩, ?_⟩
    refine ⟨_, rfl, _, rfl, _, _, rfl, rfl, .inl (bt64 bt _), F, _, _, rfl, rfl, hF2, small5 (by simp; omega), ?_⟩
    refine ⟨_, rfl, _, rfl, _, _, rfl, rfl, .inr ⟨d1, d2⟩, some (.int (l.getD (l.length - 1 - i) 0)), by rw [Int.pow_succ]; rfl, ?_, ?_, ?_⟩
    · intro b o hb
      rw [upd_ne (ne_of_none hb hF)]; exact s2 _ _ hb
    · rw [upd_ne (Ne.symm nFR)]; exact hR2
    · rw [upd_same, List.range_succ, List.map_append, List.map_append]; rfl
  · rintro σ H2 ⟨w0, rfl, s2, hR2, hF2⟩
    refine ⟨_, rfl, F, _, rfl, SqL.of hF2, fun p hp => q _ _ (s2.trans (same_upd hp)) ⟨p, rfl, ?_⟩⟩
    rw [upd_same, List.length_reverse, List.length_map, ← MG.scl_rev, ← List.map_reverse, List.reverse_reverse]
abbrev s_power : Stmt := topS 30
theorem sc_power : FnScope ["base", "times", "found", "turn"] ["base", "times"] (defScope s_power) := ⟨rfl, rfl, rfl, by decide +kernel, rfl, by decide +kernel, by decide +kernel⟩
def spPow : Sp := fun vs H Q _ => ∃ (b : Int) (n : Nat), vs = [.int b, .int (n : Nat)] ∧ -(2 ^ 64) < b ∧ b < 2 ^ 64 ∧ n ≤ 1000 ∧ Q (.int (b ^ n)) H
theorem d_power (T : Nm K mg) (D : Df K mg "power" s_power ["base", "times"]) : Cl P w K mg base CX0 1 "power" spPow := by
  refine D.cl sc_power (fun vs H Q E h => ?_) (fun f cdv A outer s H vs Q E hr h => ?_)
  · obtain ⟨_, _, rfl, _⟩ := h; rfl
  refine ⟨_, (pss_cons (ps_set (i := 2) sc_power.nd rfl (Or.inl rfl) pe_int)
        (pss_cons (ps_for PassesOwn.never rfl (pi_range1 rfl T.n_range (pa_cons (pv 1) pa_nil)) (pg_name (i := 3) sc_power.nd rfl (Or.inl rfl)) (pss_one (ps_set (i := 2) sc_power.nd rfl (Or.inl rfl) (pe_op op_mul (pv 2) (pv 0)))))
        (pss_one (ps_ret (pv 2))))), ?_⟩
  obtain ⟨b, n, rfl, b1, b2, le, q⟩ := h
  refine ⟨_, rfl, _, rfl, by omega, by omega, ?_⟩
  rw [Int.toNat_natCast]
  refine for_range (fun i σ H2 => ∃ w0, σ = [some (.int b), some (.int (n : Nat)), some (.int (b ^ i)), w0] ∧ H2 = H) ⟨none, by rw [Int.pow_zero]; rfl, rfl⟩ ?_ ?_
  · rintro i σ H2 hi ⟨w0, rfl, rfl⟩
    refine ⟨_, rfl, _, rfl, _, _, rfl, rfl, .inr ⟨b1, b2⟩, some (.int (0 + (i : Int))), by rw [Int.pow_succ]; rfl, rfl⟩
  · rintro σ H2 ⟨w0, rfl, rfl⟩
    exact ⟨_, rfl, q⟩
abbrev s_value_at : Stmt := topS 31
theorem sc_value_at : FnScope ["some", "numerator", "denominator", "found", "one"] ["some", "numerator", "denominator"] (defScope s_value_at) := ⟨rfl, rfl, rfl, by decide +kernel, rfl, by decide +kernel, by decide +kernel⟩
def spVal : Sp := fun vs H Q _ => ∃ (v : V) (l : List Int) (n d : Int), vs = [v, .int n, .int d] ∧ LI H v l ∧ Bt 64 l ∧ -(2 ^ 64) < d ∧ d < 2 ^ 64 ∧ -(2 ^ 64) < n ∧ n < 2 ^ 64 ∧ l.length ≤ 1000 ∧ ∀ H', Same H H' → Q (.int (MG.hor n (MG.scl d l))) H'
theorem d_value_at (T : Nm K mg) (d_scaled : Cl P w K mg base CX0 1 "scaled" spScl) (D : Df K mg "value_at" s_value_at ["some", "numerator", "denominator"]) : Cl P w K mg base CX0 2 "value_at" spVal := by
  refine D.cl sc_value_at (fun vs H Q E h => ?_) (fun f cdv A outer s H vs Q E hr h => ?_)
  · obtain ⟨_, _, _, _, rfl, _⟩ := h; rfl
  refine ⟨_, (pss_cons (ps_set (i := 3) sc_value_at.nd rfl (Or.inl rfl) pe_int)
        (pss_cons (ps_for PassesOwn.never rfl (pi_list (pe_revL (pe_c0 d_scaled hr (by decide) rfl (pa_cons (pv 0) (pa_cons (pv 2) pa_nil))))) (pg_name (i := 4) sc_value_at.nd rfl (Or.inl rfl)) (pss_one (ps_set (i := 3) sc_value_at.nd rfl (Or.inl rfl) (pe_op op_add (pe_op op_mul (pv 3) (pv 1)) (pv 4)))))
        (pss_one (ps_ret (pv 3))))), ?_⟩
  obtain ⟨v, l, n, d, rfl, hv, bt, d1, d2, n1, n2, le, q⟩ := h
  refine ⟨_, rfl, _, rfl, v, l, d, rfl, hv, bt, d1, d2, le, fun r H1 s1 hr1 => ?_⟩
  obtain ⟨a, rfl, ha⟩ := hr1
  have ll := MG.scl_len d l
  generalize MG.scl d l = L at ha q ll
  refine ⟨a, _, rfl, SqL.of ha, fun R hR => ?_⟩
  refine ⟨R, rfl, ⟨_, SqL.of upd_same⟩, ?_⟩
  refine for_list (xs := (L.map V.int).reverse) (fun i σ H2 => ∃ w0, σ = [some v, some (.int n), some (.int d), some (.int (MG.hor n (L.drop (L.length - i)))), w0] ∧ Same H H2 ∧ H2 R = some (.lst (L.map V.int).reverse)) ?_ ?_ ?_ ?_
  · refine ⟨none, ?_, s1.trans (same_upd hR), upd_same⟩
    rw [Nat.sub_zero, List.drop_length]; rfl
  · rintro i σ H2 hi ⟨w0, rfl, s2, hR2⟩
    exact SqL.of hR2
  · rintro i x σ H2 hx ⟨w0, rfl, s2, hR2⟩
    obtain ⟨hi, rfl⟩ := rev_get hx
    have dr : L.drop (L.length - (i + 1)) = L.getD (L.length - 1 - i) 0 :: L.drop (L.length - i) := by
      have h3 : L.length - (i + 1) = L.length - 1 - i := by omega
      have h4 : L.length - i = L.length - 1 - i + 1 := by omega
      rw [h3, h4, List.getD_eq_getElem?_getD, List.getElem?_eq_getElem (by omega)]
      exact List.drop_eq_getElem_cons (by omega)
    refine ⟨_, rfl, _, rfl, _, _, rfl, rfl, .inr ⟨n1, n2⟩, _, rfl, _, _, rfl, rfl, some (.int (L.getD (L.length - 1 - i) 0)), ?_, s2, hR2⟩
    rw [dr]; rfl
  · rintro σ H2 ⟨w0, rfl, s2, hR2⟩
    rw [List.length_reverse, List.length_map, Nat.sub_self, List.drop_zero]
    exact ⟨_, rfl, q _ s2⟩
abbrev s_shifted : Stmt := topS 32
theorem sc_shifted : FnScope ["some", "number", "found", "least", "place"] ["some", "number"] (defScope s_shifted) := ⟨rfl, rfl, rfl, by decide +kernel, rfl, by decide +kernel, by decide +kernel⟩
def spShf : Sp := fun vs H Q _ => ∃ (v : V) (l : List Int) (n : Int), vs = [v, .int n] ∧ LI H v l ∧ 0 < l.length ∧ -(2 ^ 64) < n ∧ n < 2 ^ 64 ∧ l.length ≤ 1000 ∧ ∀ r H', Same H H' → LI H' r (MG.shf n (l.length - 1) l) → Q r H'
theorem d_shifted (T : Nm K mg) (D : Df K mg "shifted" s_shifted ["some", "number"]) : Cl P w K mg base CX0 1 "shifted" spShf := by
  refine D.cl sc_shifted (fun vs H Q E h => ?_) (fun f cdv A outer s H vs Q E hr h => ?_)
  · obtain ⟨_, _, _, rfl, _⟩ := h; rfl
  refine ⟨_, (pss_cons (ps_set (i := 2) sc_shifted.nd rfl (Or.inl rfl) (pe_callTy call_list_of rfl T.n_list (by decide +kernel) (pa_cons (pv 0) pa_nil)))
        (pss_cons (ps_for PassesOwn.never rfl (pi_range1 rfl T.n_range (pa_cons (pe_op op_sub (pe_callB (k_len (K := K) rfl) rfl T.n_len (by decide +kernel) (pa_cons (pv 2) pa_nil)) pe_int) pa_nil)) (pg_name (i := 3) sc_shifted.nd rfl (Or.inl rfl)) (pss_one (ps_for PassesOwn.never rfl (pi_range3 rfl T.n_range (pa_cons (pe_op op_sub (pe_callB (k_len (K := K) rfl) rfl T.n_len (by decide +kernel) (pa_cons (pv 2) pa_nil)) pe_int) (pa_cons (pe_op op_sub (pv 3) pe_int) (pa_cons (pe_un un_neg pe_int) pa_nil)))) (pg_name (i := 4) sc_shifted.nd rfl (Or.inl rfl)) (pss_one (ps_asg (pe_op op_add (pe_ix (k_ixL (K := K) rfl) (pv 2) (pv 4) (fun _ _ => rfl)) (pe_op op_mul (pv 1) (pe_ix (k_ixL (K := K) rfl) (pv 2) (pe_op op_add (pv 4) pe_int) (fun _ _ => rfl)))) (pg_sub (pv 2) (pv 4) set_list))))))
        (pss_one (ps_ret (pv 2))))), ?_⟩
  obtain ⟨v, l, n, rfl, ⟨a, rfl, ha⟩, pos, n1, n2, le, q⟩ := h
  refine ⟨_, rfl, a, _, rfl, .inl (SqL.of ha), fun F hF => ?_⟩
  refine ⟨_, rfl, F, _, rfl, .inl (SqL.of upd_same), _, _, rfl, rfl, _, rfl, by rw [List.length_map]; omega, by rw [List.length_map]; omega, ?_⟩
  have en : (((l.map V.int).length : Int) - 1).toNat = l.length - 1 := by rw [List.length_map]; omega
  rw [en]
  refine for_range (fun i σ H2 => ∃ w0 w1, σ = [some (.ref a), some (.int n), some (.ref F), w0, w1] ∧ Same H H2 ∧ H2 F = some (.lst ((MG.shf n i l).map V.int))) ?_ ?_ ?_
  · exact ⟨none, none, rfl, same_upd hF, upd_same⟩
  · rintro i σ H2 hi ⟨w0, w1, rfl, s2, hF2⟩
    have lX := MG.shf_len n i l
    have nxt := MG.shf_succ n i l
    generalize MG.shf n i l = X at hF2 lX nxt
    refine ⟨_, rfl, F, _, rfl, .inl (SqL.of hF2), _, _, rfl, rfl, _, rfl, _, _, rfl, rfl, _, rfl, ?_⟩
    refine ⟨_, _, _, _, rfl, RgC.neg (by rw [List.length_map]; omega) (by rw [List.length_map]; omega) (by omega) (by omega), ?_⟩
    have en2 : (((X.map V.int).length : Int) - 2 - ((0 : Int) + (i : Int) - 1)).toNat = X.length - 1 - i := by rw [List.length_map]; omega
    rw [en2]
    refine for_rangeC (fun j σ H3 => ∃ w1, σ = [some (.ref a), some (.int n), some (.ref F), some (.int (0 + (i : Int))), w1] ∧ Same H H3 ∧ H3 F = some (.lst ((X.take (X.length - 1 - j) ++ MG.sw n (X.drop (X.length - 1 - j))).map V.int))) ?_ ?_ ?_
    · refine ⟨w1, rfl, s2, ?_⟩
      have hd : X.drop (X.length - 1 - 0) = [X[X.length - 1]] := by
        rw [Nat.sub_zero, List.drop_eq_getElem_cons (by omega), List.drop_eq_nil_of_le (by omega)]
      have e : X.take (X.length - 1 - 0) ++ MG.sw n (X.drop (X.length - 1 - 0)) = X := by
        rw [hd, MG.sw_one, ← hd, List.take_append_drop]
      rw [e]; exact hF2
    · rintro j σ H3 hj ⟨w1, rfl, s3, hF3⟩
      have ep : ((X.map V.int).length : Int) - 2 + (j : Int) * (-1) = ((X.length - 1 - (j + 1) : Nat) : Int) := by rw [List.length_map]; omega
      have ep1 : X.length - 1 - j = X.length - 1 - (j + 1) + 1 := by omega
      have stp := MG.sw_step n (X := X) (p := X.length - 1 - (j + 1)) (by omega)
      rw [ep1] at hF3
      have lY : (X.take (X.length - 1 - (j + 1) + 1) ++ MG.sw n (X.drop (X.length - 1 - (j + 1) + 1))).length = X.length := by rw [List.length_append, MG.sw_len, List.length_take, List.length_drop]; omega
      have hp : X.length - 1 - (j + 1) + 1 < X.length := by omega
      generalize X.length - 1 - (j + 1) = p at *
      generalize X.take (p + 1) ++ MG.sw n (X.drop (p + 1)) = Y at hF3 stp lY
      rw [ep]
      refine ⟨_, rfl, _, rfl, F, _, _, _, rfl, rfl, SqL.of hF3, int_at (by omega), ?_⟩
      refine ⟨_, rfl, _, rfl, _, rfl, _, _, rfl, rfl, F, _, _, .int (Y.getD (p + 1) 0), rfl, rfl, SqL.of hF3, ?_, ?_⟩
      · have : ((p : Nat) : Int) + 1 = ((p + 1 : Nat) : Int) := by omega
        rw [this]; exact int_at (by omega)
      refine ⟨_, _, rfl, rfl, .inl ⟨n1, n2⟩, _, _, rfl, rfl, ?_⟩
      refine ⟨_, rfl, _, rfl, F, _, _, p, rfl, rfl, hF3, ixN_nat (by rw [List.length_map]; omega), some (.int (p : Nat)), rfl, ?_, ?_⟩
      · intro b o hb
        rw [upd_ne (ne_of_none hb hF)]; exact s3 _ _ hb
      · rw [upd_same, ← stp, List.map_set]
    · rintro σ H3 ⟨w1, rfl, s3, hF3⟩
      have e : X.length - 1 - (X.length - 1 - i) = i := by omega
      rw [e, ← nxt] at hF3
      exact ⟨_, _, rfl, s3, hF3⟩
  · rintro σ H2 ⟨w0, w1, rfl, s2, hF2⟩
    exact ⟨_, rfl, q _ _ s2 ⟨F, rfl, hF2⟩⟩
end
end WK

-- part W11
set_option maxRecDepth 100000
set_option maxHeartbeats 4000000
namespace WK
open PySem PySem.Spec PyProof.Rows L2
theorem dec_int (a b : Int) : decide (V.int a = V.int b) = decide (a = b) := by
  by_cases h : a = b
  · subst h; simp
  · rw [decide_eq_false h]; exact decide_eq_false fun z => h (by cases z; rfl)
section
variable {P : Program} {w : World} {K : PySem.W.Frag} {mg : Str → Option Value} {base : Heap} {C : Addr}
abbrev s_zeros_ahead : Stmt := topS 33
theorem sc_zeros_ahead : FnScope ["some", "found"] ["some"] (defScope s_zeros_ahead) := ⟨rfl, rfl, rfl, by decide +kernel, rfl, by decide +kernel, by decide +kernel⟩
def spZah : Sp := fun vs H Q _ => ∃ (v : V) (l : List Int), vs = [v] ∧ LI H v l ∧ (∃ i, i < l.length ∧ l.getD i 0 ≠ 0) ∧ ∀ H', Same H H' → Q (.int (MG.zah l : Nat)) H'
theorem d_zeros_ahead (T : Nm K mg) (D : Df K mg "zeros_ahead" s_zeros_ahead ["some"]) : Cl P w K mg base CX0 1 "zeros_ahead" spZah := by
  refine D.cl sc_zeros_ahead (fun vs H Q E h => ?_) (fun f cdv A outer s H vs Q E hr h => ?_)
  · obtain ⟨_, _, rfl, _⟩ := h; rfl
  refine ⟨_, (pss_cons (ps_set (i := 1) sc_zeros_ahead.nd rfl (Or.inl rfl) pe_int)
        (pss_cons (ps_while PassesOwn.never (pt_cmpR (op_eq) (pe_ix (k_ixL (K := K) rfl) (pv 0) (pv 1) (fun _ _ => rfl)) pe_int (nomark _)) (pss_one (ps_set (i := 1) sc_zeros_ahead.nd rfl (Or.inl rfl) (pe_op op_add (pv 1) pe_int))))
        (pss_one (ps_ret (pv 1))))), ?_⟩
  obtain ⟨v, l, rfl, ⟨a, rfl, ha⟩, ⟨i, hi, ne⟩, q⟩ := h
  refine ⟨fun m σ H2 => ∃ k : Nat, m = l.length - k ∧ σ = [some (.ref a), some (.int (k : Nat))] ∧ H2 = H ∧ k ≤ i ∧ ∀ j, j < k → l.getD j 0 = 0, ⟨_, 0, rfl, rfl, rfl, by omega, fun j hj => by omega⟩, ?_⟩
  rintro m σ H2 ⟨k, rfl, rfl, rfl, ki, hz⟩
  refine ⟨_, rfl, _, rfl, a, _, _, _, rfl, rfl, SqL.of ha, int_at (by omega), rfl, _, rfl, ?_⟩
  refine ifb (dec_int _ _) (fun c => ?_) (fun c => ?_)
  · have c2 := of_decide_eq_true c
    have kl : k < i := by
      rcases Nat.lt_or_ge k i with h | h
      · exact h
      · have : k = i := by omega
        subst this; exact absurd c2 ne
    refine ⟨fun σ' H' => ∃ m', m' < l.length - k ∧ ∃ k : Nat, m' = l.length - k ∧ σ' = [some (.ref a), some (.int (k : Nat))] ∧ H' = H2 ∧ k ≤ i ∧ ∀ j, j < k → l.getD j 0 = 0, fun _ _ h => h, ?_⟩
    refine ⟨_, rfl, _, _, rfl, rfl, l.length - (k + 1), by omega, k + 1, rfl, rfl, rfl, kl, fun j hj => ?_⟩
    rcases Nat.lt_or_ge j k with h | h
    · exact hz j h
    · have : j = k := by omega
      subst this; exact c2
  · have c2 := of_decide_eq_false c
    have := MG.zah_at l k hz (by omega) c2
    rw [this] at q
    exact ⟨_, rfl, q _ (Same.refl _)⟩
abbrev s_sign_changes : Stmt := topS 46
theorem sc_sign_changes : FnScope ["some", "left", "one", "at"] ["some"] (defScope s_sign_changes) := ⟨rfl, rfl, rfl, by decide +kernel, rfl, by decide +kernel, by decide +kernel⟩
def spChg : Sp := fun vs H Q _ => ∃ (v : V) (l : List Int), vs = [v] ∧ LI H v l ∧ l.length ≤ 1000 ∧ ∀ H', Same H H' → Q (.int (MG.chg (MG.nz l) : Nat)) H'
theorem d_sign_changes (T : Nm K mg) (D : Df K mg "sign_changes" s_sign_changes ["some"]) : Cl P w K mg base CX0 1 "sign_changes" spChg := by
  refine D.cl sc_sign_changes (fun vs H Q E h => ?_) (fun f cdv A outer s H vs Q E hr h => ?_)
  · obtain ⟨_, _, rfl, _⟩ := h; rfl
  refine ⟨_, (pss_cons (ps_set (i := 1) sc_sign_changes.nd rfl (Or.inr rfl) (pe_lc (own := [("one", 2)]) rfl sc_sign_changes.nd (pi_list (pv 0)) (blkOk_by (N := ["some", "left", "one", "at"]) (sc := defScope s_sign_changes) (by decide +kernel)) (fun _ _ _ _ _ => pg_name (i := 2) sc_sign_changes.nd rfl (Or.inl rfl)) (fun _ _ _ _ _ => pts_one (pt_cmpR (op_ne) (pv 2) pe_int (nomark _))) (fun _ _ _ _ _ => (pv 2))))
        (pss_one (ps_ret (pe_callB (k_len (K := K) rfl) rfl T.n_len (by decide +kernel) (pa_cons (pe_lc (own := [("at", 3)]) rfl sc_sign_changes.nd (pi_range2 rfl T.n_range (pa_cons pe_int (pa_cons (pe_callB (k_len (K := K) rfl) rfl T.n_len (by decide +kernel) (pa_cons (pv 1) pa_nil)) pa_nil))) (blkOk_by (N := ["some", "left", "one", "at"]) (sc := defScope s_sign_changes) (by decide +kernel)) (fun _ _ _ _ _ => pg_name (i := 3) sc_sign_changes.nd rfl (Or.inl rfl)) (fun _ _ _ _ _ => pts_one (pt_cmpR (op_ne) (pe_cmpR (op_gt) (pe_ix (k_ixL (K := K) rfl) (pv 1) (pv 3) (fun _ _ => rfl)) pe_int (nomark _)) (pe_cmpR (op_gt) (pe_ix (k_ixL (K := K) rfl) (pv 1) (pe_op op_sub (pv 3) pe_int) (fun _ _ => rfl)) pe_int (nomark _)) (nomark _))) (fun _ _ _ _ _ => (pv 3))) pa_nil))))), ?_⟩
  obtain ⟨v, l, rfl, ⟨a, rfl, ha⟩, le, q⟩ := h
  refine ⟨_, rfl, a, rfl, ⟨_, SqL.of ha⟩, ?_⟩
  refine comp_list l PyData.int (fun a => decide (a ≠ 0)) id PyData.int (SqL.of ha) (RpA.of_ints l) (by omega) (fun x y H3 D acc C2 N2 hx s3 hD hy pT pF => ?_) (fun D H2 nD s2 r => ?_)
  · cases hy
    refine ⟨rfl, _, rfl, rfl, _, rfl, ?_⟩
    refine ifb (by rw [dec_int]; simp) (fun c => ⟨_, rfl, pT c _ _ (Same.refl _) (.int _)⟩) (fun c => pF c _ (Same.refl _))
  rw [List.map_id] at r
  have ln : (MG.nz l).length ≤ 1000 := Nat.le_trans (List.length_filter_le _ _) le
  have cc := MG.chg_count (MG.nz l)
  change Rp _ _ (.list ((MG.nz l).map PyData.int)) at r
  generalize MG.nz l = L at r ln cc q
  obtain ⟨D', e, hD⟩ := LI.of r
  cases e
  refine ⟨_, rfl, D, _, rfl, .inl (SqL.of hD), _, _, rfl, ⟨by decide, by decide, by rw [List.length_map]; omega, by rw [List.length_map]; omega⟩, ?_⟩
  have en : (((L.map V.int).length : Int) - 1).toNat = L.length - 1 := by rw [List.length_map]; omega
  rw [en]
  refine comp_range (fun i => decide (L.getD (i + 1) 0 > 0) != decide (L.getD i 0 > 0)) (fun i => ((1 + (i : Int)) : Int)) PyData.int (by omega) (fun i H3 D3 acc C2 N2 hi s3 hD3 pT pF => ?_) (fun D3 H3 nD3 s3 r3 => ?_)
  · have s4 := s3.trans (hide_same H3 D3)
    have e1 : (1 : Int) + (i : Int) = ((i + 1 : Nat) : Int) := by omega
    have e2 : ((i + 1 : Nat) : Int) - 1 = ((i : Nat) : Int) := by omega
    refine ⟨rfl, _, rfl, _, rfl, D, _, _, .int (L.getD (i + 1) 0), rfl, rfl, SqL.of (s4 _ _ hD), by rw [e1]; exact int_at (by omega), _, _, rfl, rfl, ?_⟩
    refine ⟨_, rfl, _, rfl, _, _, rfl, rfl, D, _, _, .int (L.getD i 0), rfl, rfl, SqL.of (s4 _ _ hD), by rw [e1, e2]; exact int_at (by omega), _, _, rfl, rfl, rfl, _, rfl, ?_⟩
    refine ifb (b := decide (L.getD (i + 1) 0 > 0) != decide (L.getD i 0 > 0)) ?_ (fun c => ⟨_, rfl, pT c _ _ (Same.refl _) (.int _)⟩) (fun c => pF c _ (Same.refl _))
    show (!decide (V.bl (decide (0 < L.getD (i + 1) 0)) = V.bl (decide (0 < L.getD i 0)))) = (decide (0 < L.getD (i + 1) 0) != decide (0 < L.getD i 0))
    cases decide (0 < L.getD (i + 1) 0) <;> cases decide (0 < L.getD i 0) <;> decide
  · obtain ⟨D4, ys, e, hD4, hY⟩ := r3.list
    cases e
    refine ⟨D3, ys, rfl, .inl (SqL.of hD4), ?_⟩
    rw [hY.len, List.length_map, List.length_map, ← cc]
    exact q _ (s2.trans s3)
/-- its top stands, so there is one that is not zero -/
def ShfOk (n : Int) (l : List Int) : Prop := ∃ i, i < (MG.shf n (l.length - 1) l).length ∧ (MG.shf n (l.length - 1) l).getD i 0 ≠ 0
abbrev s_multiplicity : Stmt := topS 47
theorem sc_multiplicity : FnScope ["some", "number"] ["some", "number"] (defScope s_multiplicity) := ⟨rfl, rfl, rfl, by decide +kernel, rfl, by decide +kernel, by decide +kernel⟩
def spMul : Sp := fun vs H Q _ => ∃ (v : V) (l : List Int) (n : Int), vs = [v, .int n] ∧ LI H v l ∧ 0 < l.length ∧ -(2 ^ 64) < n ∧ n < 2 ^ 64 ∧ l.length ≤ 1000 ∧ ShfOk n l ∧ ∀ H', Same H H' → Q (.int (MG.zah (MG.shf n (l.length - 1) l) : Nat)) H'
theorem d_multiplicity (T : Nm K mg) (d_zeros_ahead : Cl P w K mg base CX0 1 "zeros_ahead" spZah) (d_shifted : Cl P w K mg base CX0 1 "shifted" spShf) (D : Df K mg "multiplicity" s_multiplicity ["some", "number"]) : Cl P w K mg base CX0 2 "multiplicity" spMul := by
  refine D.cl sc_multiplicity (fun vs H Q E h => ?_) (fun f cdv A outer s H vs Q E hr h => ?_)
  · obtain ⟨_, _, _, rfl, _⟩ := h; rfl
  refine ⟨_, (pss_one (ps_ret (pe_c0 d_zeros_ahead hr (by decide) rfl (pa_cons (pe_c0 d_shifted hr (by decide) rfl (pa_cons (pv 0) (pa_cons (pv 1) pa_nil))) pa_nil)))), ?_⟩
  obtain ⟨v, l, n, rfl, hv, pos, n1, n2, le, ok, q⟩ := h
  refine ⟨_, rfl, _, rfl, v, l, n, rfl, hv, pos, n1, n2, le, fun r H1 s1 hr1 => ?_⟩
  exact ⟨r, _, rfl, hr1, ok, fun H2 s2 => q _ (s1.trans s2)⟩
abbrev s_roots_from : Stmt := topS 48
theorem sc_roots_from : FnScope ["some", "number", "moved"] ["some", "number"] (defScope s_roots_from) := ⟨rfl, rfl, rfl, by decide +kernel, rfl, by decide +kernel, by decide +kernel⟩
def spRf : Sp := fun vs H Q _ => ∃ (v : V) (l : List Int) (n : Int), vs = [v, .int n] ∧ LI H v l ∧ 0 < l.length ∧ -(2 ^ 64) < n ∧ n < 2 ^ 64 ∧ l.length ≤ 1000 ∧ ShfOk n l ∧ ∀ H', Same H H' → Q (.int ((MG.chg (MG.nz (MG.shf n (l.length - 1) l)) + MG.zah (MG.shf n (l.length - 1) l) : Nat) : Int)) H'
theorem d_roots_from (T : Nm K mg) (d_zeros_ahead : Cl P w K mg base CX0 1 "zeros_ahead" spZah) (d_sign_changes : Cl P w K mg base CX0 1 "sign_changes" spChg) (d_shifted : Cl P w K mg base CX0 1 "shifted" spShf) (D : Df K mg "roots_from" s_roots_from ["some", "number"]) : Cl P w K mg base CX0 2 "roots_from" spRf := by
  refine D.cl sc_roots_from (fun vs H Q E h => ?_) (fun f cdv A outer s H vs Q E hr h => ?_)
  · obtain ⟨_, _, _, rfl, _⟩ := h; rfl
  refine ⟨_, (pss_cons (ps_set (i := 2) sc_roots_from.nd rfl (Or.inl rfl) (pe_c0 d_shifted hr (by decide) rfl (pa_cons (pv 0) (pa_cons (pv 1) pa_nil))))
        (pss_one (ps_ret (pe_op op_add (pe_c0 d_sign_changes hr (by decide) rfl (pa_cons (pv 2) pa_nil)) (pe_c0 d_zeros_ahead hr (by decide) rfl (pa_cons (pv 2) pa_nil)))))), ?_⟩
  obtain ⟨v, l, n, rfl, hv, pos, n1, n2, le, ok, q⟩ := h
  refine ⟨_, rfl, _, rfl, v, l, n, rfl, hv, pos, n1, n2, le, fun r H1 s1 hr1 => ?_⟩
  have ls := MG.shf_len n (l.length - 1) l
  refine ⟨_, rfl, r, _, rfl, hr1, by omega, fun H2 s2 => ?_⟩
  refine ⟨_, rfl, r, _, rfl, hr1.mono s2, ok, fun H3 s3 => ⟨_, _, rfl, rfl, ?_⟩⟩
  exact q _ ((s1.trans s2).trans s3)
abbrev s_root_floor : Stmt := topS 49
theorem sc_root_floor : FnScope ["some", "k", "bits", "moved", "wanted", "low", "high", "middle"] ["some", "k", "bits"] (defScope s_root_floor) := ⟨rfl, rfl, rfl, by decide +kernel, rfl, by decide +kernel, by decide +kernel⟩
def spFloor : Sp := fun vs H Q _ => ∃ (v : V) (l : List Int) (k b : Nat) (rs : List MG.K), vs = [v, .int (k : Nat), .int (b : Nat)] ∧ LI H v l ∧ Bt 64 l ∧ MG.Sp (MG.tz l) rs ∧ k < rs.length ∧ b ≤ 20 ∧ l.length ≤ 1000 ∧ (∀ r, r ∈ rs → -8 < r ∧ r < 8) ∧ ∀ z H', Same H H' → MG.IsFl rs ((2 ^ b : Nat) : Rat) k z → Q (.int z) H'
theorem d_root_floor (T : Nm K mg) (d_scaled : Cl P w K mg base CX0 1 "scaled" spScl) (d_roots_from : Cl P w K mg base CX0 2 "roots_from" spRf) (D : Df K mg "root_floor" s_root_floor ["some", "k", "bits"]) : Cl P w K mg base CX0 3 "root_floor" spFloor := by
  refine D.cl sc_root_floor (fun vs H Q E h => ?_) (fun f cdv A outer s H vs Q E hr h => ?_)
  · obtain ⟨_, _, _, _, _, rfl, _⟩ := h; rfl
  refine ⟨_, (pss_cons (ps_set (i := 3) sc_root_floor.nd rfl (Or.inl rfl) (pe_c0 d_scaled hr (by decide) rfl (pa_cons (pv 0) (pa_cons (pe_op op_shl pe_int (pv 2)) pa_nil))))
        (pss_cons (ps_set (i := 4) sc_root_floor.nd rfl (Or.inl rfl) (pe_op op_sub (pe_op op_sub (pe_callB (k_len (K := K) rfl) rfl T.n_len (by decide +kernel) (pa_cons (pv 0) pa_nil)) pe_int) (pv 1)))
        (pss_cons (ps_par (i := 5) (j := 6) (by rfl) sc_root_floor.nd rfl rfl (by decide) rfl rfl (pa_cons (pe_un un_neg (pe_op op_shl (pe_gc rfl T.c_FARTHEST) (pv 2))) (pa_cons (pe_op op_shl (pe_gc rfl T.c_FARTHEST) (pv 2)) pa_nil)) (by rfl))
        (pss_cons (ps_while PassesOwn.never (pt_cmpR (op_gt) (pe_op op_sub (pv 6) (pv 5)) pe_int (nomark _)) (pss_cons (ps_set (i := 7) sc_root_floor.nd rfl (Or.inl rfl) (pe_op op_fdiv (pe_op op_add (pv 5) (pv 6)) pe_int))
        (pss_one (ps_if (pt_cmpR (op_ge) (pe_c0 d_roots_from hr (by decide) rfl (pa_cons (pv 3) (pa_cons (pv 7) pa_nil))) (pv 4) (nomark _)) (pss_one (ps_set (i := 5) sc_root_floor.nd rfl (Or.inl rfl) (pv 7))) (pss_one (ps_set (i := 6) sc_root_floor.nd rfl (Or.inl rfl) (pv 7)))))))
        (pss_one (ps_ret (pv 5))))))), ?_⟩
  obtain ⟨v, l, k, b, rs, rfl, hv, bt, sp, kr, b20, le, near, q⟩ := h
  have ll := sp.len
  rw [MG.len_tz] at ll
  have p20 : (2 : Nat) ^ b ≤ 2 ^ 20 := Nat.pow_le_pow_right (by decide) b20
  have p1 : 1 ≤ (2 : Nat) ^ b := Nat.one_le_two_pow
  have pe : (1 : Int) * 2 ^ b = ((2 ^ b : Nat) : Int) := by push_cast; omega
  have p8 : (8 : Int) * 2 ^ b = ((8 * 2 ^ b : Nat) : Int) := by push_cast; rfl
  refine ⟨_, rfl, _, rfl, _, _, rfl, rfl, ⟨by omega, by omega, by decide⟩, ?_⟩
  refine ⟨v, l, ((2 ^ b : Nat) : Int), (by rw [← pe]; rfl), hv, bt, by omega, by omega, le, fun r H1 s1 hr1 => ?_⟩
  obtain ⟨ma, rfl, hma⟩ := hr1
  obtain ⟨a, rfl, ha⟩ := hv
  refine ⟨_, rfl, a, _, rfl, .inl (SqL.of (s1 _ _ ha)), _, _, rfl, rfl, _, rfl, _, _, rfl, rfl, ?_⟩
  refine ⟨_, rfl, _, _, rfl, rfl, ⟨by omega, by omega, by decide⟩, _, rfl, _, rfl, _, _, rfl, rfl, ⟨by omega, by omega, by decide⟩, _, _, rfl, ?_⟩
  obtain ⟨z, hz, z1, z2⟩ := MG.floor_in (bits := b) kr near
  rw [p8] at z1 z2
  refine ⟨fun m σ H2 => ∃ (lo hi : Int) (w0 : Option V), m = (hi - lo).toNat ∧ σ = [some (.ref a), some (.int (k : Nat)), some (.int (b : Nat)), some (.ref ma), some (.int (((l.map V.int).length : Int) - 1 - (k : Nat))), some (.int lo), some (.int hi), w0] ∧ Same H H2 ∧ LI H2 (.ref ma) (MG.scl ((2 ^ b : Nat) : Int) l) ∧ lo ≤ z ∧ z < hi ∧ -(8 * 2 ^ b : Nat) ≤ lo ∧ hi ≤ (8 * 2 ^ b : Nat), ⟨_, -((8 * 2 ^ b : Nat) : Int), ((8 * 2 ^ b : Nat) : Int), none, rfl, by rw [← p8]; rfl, s1, ⟨ma, rfl, hma⟩, z1, z2, by omega, by omega⟩, ?_⟩
  rintro m σ H2 ⟨lo, hi, w0, rfl, rfl, s2, hma2, lz, zh, lb, hb⟩
  refine ⟨_, rfl, _, rfl, _, _, rfl, rfl, _, _, rfl, rfl, _, rfl, ?_⟩
  refine ifb (b := decide (1 < hi - lo)) rfl (fun c => ?_) (fun c => ?_)
  · have c2 := of_decide_eq_true c
    refine ⟨fun σ' H' => ∃ m', m' < (hi - lo).toNat ∧ ∃ (lo hi : Int) (w0 : Option V), m' = (hi - lo).toNat ∧ σ' = [some (.ref a), some (.int (k : Nat)), some (.int (b : Nat)), some (.ref ma), some (.int (((l.map V.int).length : Int) - 1 - (k : Nat))), some (.int lo), some (.int hi), w0] ∧ Same H H' ∧ LI H' (.ref ma) (MG.scl ((2 ^ b : Nat) : Int) l) ∧ lo ≤ z ∧ z < hi ∧ -(8 * 2 ^ b : Nat) ≤ lo ∧ hi ≤ (8 * 2 ^ b : Nat), fun _ _ h => h, ?_⟩
    refine ⟨_, rfl, _, rfl, _, _, rfl, rfl, _, _, rfl, rfl, ⟨by decide, by decide⟩, ?_⟩
    have ls := MG.scl_len ((2 ^ b : Nat) : Int) l
    have top := MG.shf_top (sp.scl (d := ((2 ^ b : Nat) : Int)) (by omega)) ((lo + hi) / 2) (n := (MG.scl ((2 ^ b : Nat) : Int) l).length - 1) (by omega)
    refine ⟨_, rfl, _, rfl, .ref ma, _, _, rfl, hma2, by omega, by omega, by omega, by omega, ⟨_, top.2, by rw [top.1]; decide⟩, fun H3 s3 => ?_⟩
    have pi := MG.pass_iff sp hz ((lo + hi) / 2) (n := (MG.scl ((2 ^ b : Nat) : Int) l).length - 1) (by omega)
    refine ⟨_, rfl, _, _, rfl, rfl, _, rfl, ?_⟩
    refine ifb (b := decide ((lo + hi) / 2 ≤ z)) (by
      refine decide_eq_decide.mpr ?_
      rw [← pi, List.length_map]
      omega) (fun d => ?_) (fun d => ?_)
    · have d2 := of_decide_eq_true d
      refine ⟨_, rfl, (hi - (lo + hi) / 2).toNat, by omega, (lo + hi) / 2, hi, _, rfl, rfl, s2.trans s3, hma2.mono s3, d2, zh, by omega, hb⟩
    · have d2 := of_decide_eq_false d
      refine ⟨_, rfl, ((lo + hi) / 2 - lo).toNat, by omega, lo, (lo + hi) / 2, _, rfl, rfl, s2.trans s3, hma2.mono s3, lz, by omega, lb, by omega⟩
  · have c2 := of_decide_eq_false c
    have : lo = z := by omega
    subst this
    exact ⟨_, rfl, q _ _ s2 hz⟩
end
end WK

-- part W12
set_option maxRecDepth 100000
set_option maxHeartbeats 4000000
namespace WK
open PySem PySem.Spec PyProof.Rows L2
/-- a reference that is new -/
def Fr (H : Hp) (r : V) : Prop := ∃ b, r = .ref b ∧ H b = none
theorem gone {H H1 : Hp} (s : Same H H1) {p : Addr} (hp : H1 p = none) : H p = none := by
  cases e : H p with
  | none => rfl
  | some o => rw [s _ _ e] at hp; cases hp
theorem Fr.at {H H1 : Hp} (s : Same H H1) {p : Addr} (hp : H1 p = none) : Fr H (.ref p) := ⟨p, rfl, gone s hp⟩
theorem Fr.old {H H1 : Hp} {r : V} (s : Same H H1) (h : Fr H1 r) : Fr H r := by
  obtain ⟨b, e, hb⟩ := h
  exact ⟨b, e, gone s hb⟩
section
variable {P : Program} {w : World} {K : PySem.W.Frag} {mg : Str → Option Value} {base : Heap} {C : Addr}
abbrev s_common_divisor : Stmt := topS 61
theorem sc_common_divisor : FnScope ["one", "other"] ["one", "other"] (defScope s_common_divisor) := ⟨rfl, rfl, rfl, by decide +kernel, rfl, by decide +kernel, by decide +kernel⟩
def spGcd : Sp := fun vs H Q _ => ∃ a b : Nat, vs = [.int (a : Nat), .int (b : Nat)] ∧ Q (.int (Nat.gcd a b : Nat)) H
theorem d_common_divisor (T : Nm K mg) (D : Df K mg "common_divisor" s_common_divisor ["one", "other"]) : Cl P w K mg base CX0 1 "common_divisor" spGcd := by
  refine D.cl sc_common_divisor (fun vs H Q E h => ?_) (fun f cdv A outer s H vs Q E hr h => ?_)
  · obtain ⟨_, _, rfl, _⟩ := h; rfl
  refine ⟨_, (pss_cons (ps_while PassesOwn.never (pt_cmpR (op_ne) (pv 1) pe_int (nomark _)) (pss_one (ps_par (i := 0) (j := 1) (by rfl) sc_common_divisor.nd rfl rfl (by decide) rfl rfl (pa_cons (pv 1) (pa_cons (pe_op op_mod (pv 0) (pv 1)) pa_nil)) (by rfl))))
        (pss_one (ps_ret (pv 0)))), ?_⟩
  obtain ⟨a, b, rfl, q⟩ := h
  refine ⟨fun m σ H2 => ∃ x y : Nat, m = y ∧ σ = [some (.int (x : Nat)), some (.int (y : Nat))] ∧ H2 = H ∧ Nat.gcd x y = Nat.gcd a b, ⟨_, a, b, rfl, rfl, rfl, rfl⟩, ?_⟩
  rintro m σ H2 ⟨x, y, rfl, rfl, rfl, e⟩
  refine ⟨_, rfl, rfl, _, rfl, ?_⟩
  refine ifb (b := !decide (m = 0)) (by rw [dec_int]; congr 1; exact decide_eq_decide.mpr (by omega)) (fun c => ?_) (fun c => ?_)
  · have c2 : m ≠ 0 := by simpa using c
    refine ⟨fun σ' H' => ∃ m', m' < m ∧ ∃ x y : Nat, m' = y ∧ σ' = [some (.int (x : Nat)), some (.int (y : Nat))] ∧ H' = H2 ∧ Nat.gcd x y = Nat.gcd a b, fun _ _ h => h, ?_⟩
    refine ⟨_, rfl, _, rfl, _, rfl, _, _, rfl, rfl, (by show (0 : Int) < (m : Int); omega), _, _, rfl, x % m, Nat.mod_lt _ (by omega), m, x % m, rfl, rfl, rfl, ?_⟩
    rw [← e, Nat.gcd_comm x m, Nat.gcd_rec m x, Nat.gcd_comm]
  · have c2 : m = 0 := by simpa using c
    subst c2
    rw [Nat.gcd_zero_right] at e
    subst e
    exact ⟨_, rfl, q⟩
abbrev s_told_polynomial : Stmt := topS 62
theorem sc_told_polynomial : FnScope ["some", "found", "one"] ["some"] (defScope s_told_polynomial) := ⟨rfl, rfl, rfl, by decide +kernel, rfl, by decide +kernel, by decide +kernel⟩
def toldI (l : List Int) : List Int := (l.length : Int) :: l.flatMap fun c => [c, 1]
theorem flat2_len : ∀ l : List Int, (l.flatMap fun c => [c, 1]).length = 2 * l.length
  | [] => rfl
  | c :: l => by rw [List.flatMap_cons, List.length_append, flat2_len l, List.length_cons]; simp; omega
theorem toldI_len (l : List Int) : (toldI l).length = 2 * l.length + 1 := by unfold toldI; rw [List.length_cons, flat2_len]
theorem get_ints {l : List Int} {i : Nat} {x : V} (h : (l.map V.int)[i]? = some x) : i < l.length ∧ x = .int (l.getD i 0) ∧ l.take (i + 1) = l.take i ++ [l.getD i 0] := by
  obtain ⟨z, hz, rfl⟩ := map_get h
  have e : l.getD i 0 = z := by rw [List.getD_eq_getElem?_getD, hz]; rfl
  refine ⟨(List.getElem?_eq_some_iff.mp hz).1, by rw [e], ?_⟩
  rw [e]; exact take_snoc hz
def spTold : Sp := fun vs H Q _ => ∃ (v : V) (l : List Int), vs = [v] ∧ LI H v l ∧ l.length ≤ 1000 ∧ ∀ r H', Same H H' → LI H' r (toldI l) → Fr H r → Q r H'
theorem d_told_polynomial (T : Nm K mg) (D : Df K mg "told_polynomial" s_told_polynomial ["some"]) : Cl P w K mg base CX0 1 "told_polynomial" spTold := by
  refine D.cl sc_told_polynomial (fun vs H Q E h => ?_) (fun f cdv A outer s H vs Q E hr h => ?_)
  · obtain ⟨_, _, rfl, _⟩ := h; rfl
  refine ⟨_, (pss_cons (ps_set (i := 1) sc_told_polynomial.nd rfl (Or.inl rfl) (pe_lst (pa_cons (pe_callB (k_len (K := K) rfl) rfl T.n_len (by decide +kernel) (pa_cons (pv 0) pa_nil)) pa_nil)))
        (pss_cons (ps_for PassesOwn.never rfl (pi_list (pv 0)) (pg_name (i := 2) sc_told_polynomial.nd rfl (Or.inl rfl)) (pss_one (ps_expr (pe_bm PySem.F.plainAttrs_list PySem.F.slot_list_extend PySem.F.type_list_extend mt_extend (pv 1) (pa_cons (pe_lst (pa_cons (pv 2) (pa_cons pe_int pa_nil))) pa_nil)))))
        (pss_one (ps_ret (pv 1))))), ?_⟩
  obtain ⟨v, l, rfl, ⟨a, rfl, ha⟩, le, q⟩ := h
  refine ⟨_, rfl, a, _, rfl, .inl (SqL.of ha), small5' (by show 1 ≤ 16000000; decide), fun F hF => ?_⟩
  have s1 := same_upd (o := HO.lst [.int ((l.map V.int).length : Int)]) hF
  refine ⟨_, rfl, a, rfl, ⟨_, SqL.of (s1 _ _ ha)⟩, ?_⟩
  refine for_list (xs := l.map V.int) (fun i σ H2 => ∃ w0, σ = [some (.ref a), some (.ref F), w0] ∧ Same H H2 ∧ H2 F = some (.lst (((l.length : Int) :: (l.take i).flatMap fun c => [c, 1]).map V.int))) ?_ ?_ ?_ ?_
  · refine ⟨none, rfl, s1, ?_⟩
    rw [upd_same, List.length_map]; rfl
  · rintro i σ H2 hi ⟨w0, rfl, s2, hF2⟩
    exact SqL.of (s2 _ _ ha)
  · rintro i x σ H2 hx ⟨w0, rfl, s2, hF2⟩
    obtain ⟨hi, rfl, tk⟩ := get_ints hx
    refine ⟨_, rfl, .inl ⟨rfl, _, SqL.of hF2⟩, ?_⟩
    refine ⟨_, rfl, small5' (by show 2 ≤ 16000000; decide), fun p hp => ?_⟩
    have npF : F ≠ p := ne_of_none hF2 hp
    refine ⟨F, p, _, _, rfl, rfl, by rw [upd_ne npF]; exact hF2, upd_same, small5' ?_, some (.int (l.getD i 0)), rfl, ?_, ?_⟩
    · rw [List.length_map, List.length_cons, flat2_len, List.length_take]
      show _ + 2 ≤ _
      omega
    · intro b o hb
      rw [upd_ne (ne_of_none hb hF)]; exact same_upd hp _ _ (s2 _ _ hb)
    · rw [upd_same, tk, List.flatMap_append, List.flatMap_singleton, List.map_cons, List.map_cons, List.map_append]; rfl
  · rintro σ H2 ⟨w0, rfl, s2, hF2⟩
    rw [List.length_map, List.take_length] at hF2
    exact ⟨_, rfl, q _ _ s2 ⟨F, rfl, hF2⟩ ⟨F, rfl, hF⟩⟩
abbrev s_told_edges : Stmt := topS 63
theorem sc_told_edges : FnScope ["edges", "found", "edge"] ["edges"] (defScope s_told_edges) := ⟨rfl, rfl, rfl, by decide +kernel, rfl, by decide +kernel, by decide +kernel⟩
def toldE (E : List Ed) : List Int := (E.length : Int) :: E.flatMap fun e => [(e.1 : Int), (e.2 : Int)]
theorem flatE_len : ∀ l : List Ed, (l.flatMap fun e => [(e.1 : Int), (e.2 : Int)]).length = 2 * l.length
  | [] => rfl
  | c :: l => by rw [List.flatMap_cons, List.length_append, flatE_len l, List.length_cons]; simp; omega
theorem toldE_len (l : List Ed) : (toldE l).length = 2 * l.length + 1 := by unfold toldE; rw [List.length_cons, flatE_len]
def spToldE : Sp := fun vs H Q _ => ∃ (v : V) (E : List Ed), vs = [v] ∧ Rp H v (.list (E.map eE)) ∧ E.length ≤ 1000 ∧ ∀ r H', Same H H' → LI H' r (toldE E) → Fr H r → Q r H'
theorem d_told_edges (T : Nm K mg) (D : Df K mg "told_edges" s_told_edges ["edges"]) : Cl P w K mg base CX0 1 "told_edges" spToldE := by
  refine D.cl sc_told_edges (fun vs H Q E h => ?_) (fun f cdv A outer s H vs Q E hr h => ?_)
  · obtain ⟨_, _, rfl, _⟩ := h; rfl
  refine ⟨_, (pss_cons (ps_set (i := 1) sc_told_edges.nd rfl (Or.inl rfl) (pe_lst (pa_cons (pe_callB (k_len (K := K) rfl) rfl T.n_len (by decide +kernel) (pa_cons (pv 0) pa_nil)) pa_nil)))
        (pss_cons (ps_for PassesOwn.never rfl (pi_list (pv 0)) (pg_name (i := 2) sc_told_edges.nd rfl (Or.inl rfl)) (pss_one (ps_expr (pe_bm PySem.F.plainAttrs_list PySem.F.slot_list_extend PySem.F.type_list_extend mt_extend (pv 1) (pa_cons (pe_callTy call_list_of rfl T.n_list (by decide +kernel) (pa_cons (pv 2) pa_nil)) pa_nil)))))
        (pss_one (ps_ret (pv 1))))), ?_⟩
  obtain ⟨v, E, rfl, hv, le, q⟩ := h
  obtain ⟨a, xs, rfl, ha, hA⟩ := hv.list
  have lx := hA.len
  rw [List.length_map] at lx
  refine ⟨_, rfl, a, _, rfl, .inl (SqL.of ha), small5' (by show 1 ≤ 16000000; decide), fun F hF => ?_⟩
  have s1 := same_upd (o := HO.lst [.int (xs.length : Int)]) hF
  refine ⟨_, rfl, a, rfl, ⟨_, SqL.of (s1 _ _ ha)⟩, ?_⟩
  refine for_list (xs := xs) (fun i σ H2 => ∃ w0, σ = [some (.ref a), some (.ref F), w0] ∧ Same H H2 ∧ H2 F = some (.lst (((E.length : Int) :: (E.take i).flatMap fun e => [(e.1 : Int), (e.2 : Int)]).map V.int))) ?_ ?_ ?_ ?_
  · refine ⟨none, rfl, s1, ?_⟩
    rw [upd_same, lx]; rfl
  · rintro i σ H2 hi ⟨w0, rfl, s2, hF2⟩
    exact SqL.of (s2 _ _ ha)
  · rintro i x σ H2 hx ⟨w0, rfl, s2, hF2⟩
    obtain ⟨d, hd, hrp⟩ := hA.get hx
    obtain ⟨e, he, rfl⟩ := map_get hd
    obtain ⟨t, rfl, ht⟩ := hrp.edge
    have tk := take_snoc he
    refine ⟨_, rfl, .inl ⟨rfl, _, SqL.of hF2⟩, ?_⟩
    refine ⟨_, rfl, t, _, rfl, .inr (SqT.of (s2 _ _ ht)), fun p hp => ?_⟩
    have npF : F ≠ p := ne_of_none hF2 hp
    refine ⟨F, p, _, _, rfl, rfl, by rw [upd_ne npF]; exact hF2, upd_same, small5' ?_, some (.ref t), rfl, ?_, ?_⟩
    · rw [List.length_map, List.length_cons, flatE_len, List.length_take]
      show _ + 2 ≤ _
      omega
    · intro b o hb
      rw [upd_ne (ne_of_none hb hF)]; exact same_upd hp _ _ (s2 _ _ hb)
    · rw [upd_same, tk, List.flatMap_append, List.flatMap_singleton, List.map_cons, List.map_cons, List.map_append]; rfl
  · rintro σ H2 ⟨w0, rfl, s2, hF2⟩
    rw [lx, List.take_length] at hF2
    exact ⟨_, rfl, q _ _ s2 ⟨F, rfl, hF2⟩ ⟨F, rfl, hF⟩⟩
abbrev s_counted : Stmt := topS 64
theorem sc_counted : FnScope ["some"] ["some"] (defScope s_counted) := ⟨rfl, rfl, rfl, by decide +kernel, rfl, by decide +kernel, by decide +kernel⟩
def spCounted : Sp := fun vs H Q _ => ∃ (v : V) (l : List Int), vs = [v] ∧ LI H v l ∧ l.length ≤ 1000 ∧ ∀ r H', Same H H' → LI H' r ((l.length : Int) :: l) → Fr H r → Q r H'
theorem d_counted (T : Nm K mg) (D : Df K mg "counted" s_counted ["some"]) : Cl P w K mg base CX0 1 "counted" spCounted := by
  refine D.cl sc_counted (fun vs H Q E h => ?_) (fun f cdv A outer s H vs Q E hr h => ?_)
  · obtain ⟨_, _, rfl, _⟩ := h; rfl
  refine ⟨_, (pss_one (ps_ret (pe_op op_cat (pe_lst (pa_cons (pe_callB (k_len (K := K) rfl) rfl T.n_len (by decide +kernel) (pa_cons (pv 0) pa_nil)) pa_nil)) (pv 0)))), ?_⟩
  obtain ⟨v, l, rfl, ⟨a, rfl, ha⟩, le, q⟩ := h
  refine ⟨_, rfl, a, _, rfl, .inl (SqL.of ha), small5' (by show 1 ≤ 16000000; decide), fun p hp => ?_⟩
  have s1 := same_upd (o := HO.lst [.int ((l.map V.int).length : Int)]) hp
  refine ⟨_, rfl, p, a, _, _, rfl, rfl, upd_same, s1 _ _ ha, small5' (by show 1 + (l.map V.int).length ≤ 16000000; rw [List.length_map]; omega), fun p2 hp2 => q _ _ (s1.trans (same_upd hp2)) ⟨p2, rfl, ?_⟩ (.at s1 hp2)⟩
  rw [upd_same, List.length_map]; rfl
end
end WK

-- part W13
set_option maxRecDepth 100000
set_option maxHeartbeats 4000000
namespace WK
open PySem PySem.Spec PyProof.Rows L2
/-! ## What is new -/
def frs (H0 H : Hp) : Hp := fun b => if H0 b = none then H b else none
theorem frs_at {H0 H : Hp} {b : Addr} {o : HO} (h : frs H0 H b = some o) : H0 b = none ∧ H b = some o := by
  unfold frs at h
  by_cases c : H0 b = none
  · rw [if_pos c] at h; exact ⟨c, h⟩
  · rw [if_neg c] at h; cases h
theorem frs_of {H0 H : Hp} {b : Addr} {o : HO} (c : H0 b = none) (h : H b = some o) : frs H0 H b = some o := by
  unfold frs; rw [if_pos c]; exact h
theorem frs_mono {H0 H H' : Hp} (s : Same H H') : Same (frs H0 H) (frs H0 H') := fun b o h => by
  obtain ⟨h1, h2⟩ := frs_at h
  exact frs_of h1 (s _ _ h2)
theorem frs_old {H0 H1 H : Hp} (s : Same H0 H1) : Same (frs H1 H) (frs H0 H) := fun b o h => by
  obtain ⟨h1, h2⟩ := frs_at h
  refine frs_of ?_ h2
  cases e : H0 b with
  | none => rfl
  | some u => rw [s _ _ e] at h1; cases h1
theorem frs_same (H0 H : Hp) : Same (frs H0 H) H := fun b o h => (frs_at h).2
/-- a comprehension whose members are new -/
theorem comp_listN {K : PySem.W.Frag} {a : Addr} {xs : List V} {g : TG} {tt : TT} {te : TE} {vs : List Nat} {σ : L2.St} {H1 : Hp} {Qd : Addr → Hp → Prop} {α β : Type} (l : List α) (eA : α → PyData) (p : α → Bool) (f : α → β) (eB : β → PyData)
    (hS : SqL K H1 a xs) (hA : RpA H1 xs (l.map eA)) (hz : l.length ≤ 16000000)
    (hs : ∀ x y H D acc (C : V → Hp → Prop) (N : Hp → Prop), x ∈ l → Same H1 (hide H D) → H D = some (.lst acc) → Rp (hide H D) y (eA x) →
      (p x = true → ∀ z H4, Same H H4 → Rp (frs H1 (hide H4 D)) z (eB (f x)) → C z H4) → (p x = false → ∀ H3, Same H H3 → N H3) →
      g y (wipe σ vs) H fun σ2 H2 => wipe σ2 vs = wipe σ vs ∧ tt σ2 H2 fun b H3 => if b = true then te σ2 H3 C else N H3)
    (hq : ∀ D H', H1 D = none → Same H1 H' → Rp (frs H1 H') (.ref D) (.list (((l.filter p).map f).map eB)) → Qd D H') :
    ∀ D, H1 D = none → ∃ W : Nat → Nat → Hp → Prop, (∃ m, W 0 m (upd H1 D (.lst []))) ∧ ∀ i m H, W i m H →
      ((Itl K a).stop i H ∧ Qd D H) ∨ ((Itl K a).go i H ∧ ∃ Nx : Hp → Prop, (∀ H', Nx H' → ∃ m', m' < m ∧ W (i + 1) m' H') ∧ ∀ x H', (Itl K a).yld i H x H' → g x (wipe σ vs) H' fun σ2 H2 => wipe σ2 vs = wipe σ vs ∧ tt σ2 H2 fun b H3 =>
        if b = true then te σ2 H3 fun y H4 => ∃ acc, H4 D = some (.lst acc) ∧ acc.length < sizeLine ∧ Nx (upd H4 D (.lst (acc ++ [y]))) else Nx H3) := by
  intro D hD
  have len := hA.len
  rw [List.length_map] at len
  refine lc_list (K := K) (a := a) (xs := xs) (Qd := fun H => Qd D H) (fun i H => Same H1 (hide H D) ∧ ∃ acc, H D = some (.lst acc) ∧ RpA (frs H1 (hide H D)) acc ((((l.take i).filter p).map f).map eB)) ?_ ?_ ?_ ?_
  · refine ⟨by rw [hide_upd, hide_none hD]; exact Same.refl _, [], upd_same, ?_⟩
    exact .nil
  · rintro i H _ ⟨s, _⟩
    exact Same.seq (s.trans (hide_same H D)) hS
  · rintro i y H hy ⟨s, acc, hacc, hR⟩
    obtain ⟨d, hd, hr⟩ := hA.get hy
    obtain ⟨x, hx, rfl⟩ := map_get hd
    have tk := take_snoc hx
    refine hs x y H D acc _ _ (List.mem_of_getElem? hx) s hacc (hr.mono s) (fun pt z H4 s4 hz4 => ?_) (fun pf H3 s3 => ?_)
    · refine ⟨acc, s4 _ _ hacc, ?_, ?_, acc ++ [z], upd_same, ?_⟩
      · refine small5 (Nat.le_trans ?_ hz)
        rw [hR.len, List.length_map, List.length_map]
        exact Nat.le_trans (List.length_filter_le _ _) (List.length_take_le' _ _)
      · rw [hide_upd]; exact s.trans (hide_mono D s4)
      · rw [hide_upd, tk, List.filter_append, List.map_append, List.map_append]
        refine (hR.mono (frs_mono (hide_mono D s4))).app ?_
        rw [List.filter_cons, if_pos pt]
        exact .cons hz4 .nil
    · refine ⟨s.trans (hide_mono D s3), acc, s3 _ _ hacc, ?_⟩
      rw [tk, List.filter_append, List.filter_cons, if_neg (by rw [pf]; exact Bool.false_ne_true)]
      rw [List.filter_nil, List.append_nil]
      exact hR.mono (frs_mono (hide_mono D s3))
  · rintro H ⟨s, acc, hacc, hR⟩
    rw [len, List.take_length] at hR
    exact hq D H hD (s.trans (hide_same H D)) (.lst (frs_of hD hacc) (hR.mono (frs_mono (hide_same H D))))
/-! ## Paths -/
def cs (q : List Nat) : List Int := q.map fun n : Nat => (n : Int)
def eP (q : List Nat) : PyData := .list ((cs q).map PyData.int)
theorem inV_path (n : Nat) (q : List Nat) : inV (.int (n : Nat)) ((cs q).map V.int) = q.contains n := by
  induction q with
  | nil => rfl
  | cons m q ih =>
    have h : ((m : Int) == (n : Int)) = (n == m) := by
      by_cases c : m = n
      · subst c; simp
      · rw [beq_eq_false_iff_ne.mpr (Ne.symm c)]; exact beq_eq_false_iff_ne.mpr (by omega)
    rw [List.contains_cons, ← ih, ← h]
    rfl
theorem flat_ints (l : List Int) : (l.map V.int).all flatV = true := by
  rw [List.all_map]; exact List.all_eq_true.mpr fun _ _ => rfl
theorem lst_cs {q : List Nat} (ne : q ≠ []) : MG.lst (cs q) = ((q.getLast?.getD 0 : Nat) : Int) := by
  unfold MG.lst cs
  have : 0 < q.length := List.length_pos_iff.mpr ne
  rw [List.getD_eq_getElem?_getD, List.length_map, List.getElem?_map, List.getLast?_eq_getElem?]
  rw [List.getElem?_eq_getElem (by omega)]; rfl
def ltl (g : Kqg4.Graph) (q : List Nat) : List (List Nat) := ((MG.nbN g (q.getLast?.getD 0)).filter fun v => !(q.contains v)).map fun v => q ++ [v]
theorem nbs_nb (g : Kqg4.Graph) (v : Nat) : nbs g v = (MG.nbN g v).map fun n : Nat => (n : Int) := by
  unfold nbs MG.nbN
  rw [List.map_map]
  refine List.map_congr_left fun e he => ?_
  have := (List.mem_filter.mp he).2
  simp only [tch, Bool.or_eq_true, decide_eq_true_eq] at this
  show (e.1 : Int) + e.2 - v = ((e.1 + e.2 - v : Nat) : Int)
  omega
section
variable {P : Program} {w : World} {K : PySem.W.Frag} {mg : Str → Option Value} {base : Heap} {C : Addr}
abbrev s_longer_paths : Stmt := topS 15
theorem sc_longer_paths : FnScope ["graph", "path", "vertex"] ["graph", "path"] (defScope s_longer_paths) := ⟨rfl, rfl, rfl, by decide +kernel, rfl, by decide +kernel, by decide +kernel⟩
def spLong (C : Addr) : Sp := fun vs H Q _ => ∃ (gv pv : V) (g : Kqg4.Graph) (q : List Nat), vs = [gv, pv] ∧ GAt C H gv g ∧ Sm g ∧ LI H pv (cs q) ∧ q ≠ [] ∧ q.length ≤ 1000 ∧ ∀ r H', Same H H' → Rp (frs H H') r (.list ((ltl g q).map eP)) → Q r H'
theorem d_longer_paths (T : Nm K mg) (G : GC K C) (m_neighbours : Mt P w K mg base 1 C "neighbours" (spNbs C)) (D : Df K mg "longer_paths" s_longer_paths ["graph", "path"]) : Cl P w K mg base CX0 2 "longer_paths" (spLong C) := by
  refine D.cl sc_longer_paths (fun vs H Q E h => ?_) (fun f cdv A outer s H vs Q E hr h => ?_)
  · obtain ⟨_, _, _, _, rfl, _⟩ := h; rfl
  refine ⟨_, (pss_one (ps_ret (pe_lc (own := [("vertex", 2)]) rfl sc_longer_paths.nd (pi_list (pe_m1 m_neighbours hr (by decide) (pv 0) (pa_cons (pe_ix (k_ixL (K := K) rfl) (pv 1) (pe_un un_neg pe_int) (fun _ _ => rfl)) pa_nil))) (blkOk_by (N := ["graph", "path", "vertex"]) (sc := defScope s_longer_paths) (by decide +kernel)) (fun _ _ _ _ _ => pg_name (i := 2) sc_longer_paths.nd rfl (Or.inl rfl)) (fun _ _ _ _ _ => pts_one (pt_cmpR (k_nin (K := K) rfl) (pv 2) (pv 1) (by rfl))) (fun _ _ _ _ _ => (pe_op op_cat (pv 1) (pe_lst (pa_cons (pv 2) pa_nil))))))), ?_⟩
  obtain ⟨gv, pv, g, q, rfl, gt, sm, ⟨pa, rfl, hpa⟩, ne, le, q0⟩ := h
  obtain ⟨ga, dx, l, rfl, h1, h2⟩ := id gt
  have pos : 0 < q.length := List.length_pos_iff.mpr ne
  refine ⟨_, rfl, ga, dx, _, rfl, h1, lkM (by decide +kernel) (by decide +kernel), ?_⟩
  refine ⟨_, rfl, _, rfl, pa, _, _, _, rfl, rfl, SqL.of hpa, lst_at (by unfold cs; rw [List.length_map]; exact pos), ?_⟩
  refine ⟨_, g, q.getLast?.getD 0, by rw [lst_cs ne]; rfl, gt, sm, fun r H1 s1 hr1 => ?_⟩
  rw [nbs_nb] at hr1
  obtain ⟨b, rfl, hb⟩ := hr1
  have hb2 : H1 b = some (.lst ((MG.nbN g (q.getLast?.getD 0)).map fun n => V.int (n : Nat))) := by rw [hb, List.map_map]; rfl
  have hbA : RpA H1 ((MG.nbN g (q.getLast?.getD 0)).map fun n => V.int (n : Nat)) ((MG.nbN g (q.getLast?.getD 0)).map fun n => PyData.int (n : Nat)) := by
    have := RpA.of_ints (H := H1) ((MG.nbN g (q.getLast?.getD 0)).map fun n : Nat => (n : Int))
    rw [List.map_map, List.map_map] at this
    exact this
  refine ⟨b, rfl, ⟨_, SqL.of hb2⟩, ?_⟩
  refine comp_listN (MG.nbN g (q.getLast?.getD 0)) (fun n => PyData.int (n : Nat)) (fun v => !(q.contains v)) (fun v => q ++ [v]) eP (SqL.of hb2) hbA ?_ (fun x y H2 D acc C2 N2 hx s2 hD hy pT pF => ?_) (fun D H2 nD s2 r => ?_)
  · unfold MG.nbN
    rw [List.length_map]
    exact Nat.le_trans (List.length_filter_le _ _) (Nat.le_trans sm.e (by decide))
  · cases hy
    have s3 := s2.trans (hide_same H2 D)
    have hp2 := s3 _ _ (s1 _ _ hpa)
    refine ⟨rfl, _, rfl, _, rfl, pa, _, rfl, .inl (SqL.of hp2), rfl, flat_ints _, _, rfl, ?_⟩
    refine ifb (b := !q.contains x) (by rw [← inV_path]; rfl) (fun c => ?_) (fun c => pF c _ (Same.refl _))
    refine ⟨_, rfl, _, rfl, small5' (by show 1 ≤ 16000000; decide), fun p hp => ?_⟩
    have s4 := same_upd (o := HO.lst [.int ((x : Nat) : Int)]) hp
    refine ⟨pa, p, _, _, rfl, rfl, s4 _ _ hp2, upd_same, small5' ?_, fun p2 hp2n => ?_⟩
    · unfold cs
      rw [List.length_map, List.length_map]
      show q.length + 1 ≤ _
      omega
    · have s5 := s4.trans (same_upd (o := HO.lst ((cs q).map V.int ++ [.int ((x : Nat) : Int)])) hp2n)
      refine pT c _ _ s5 (LI.rp ⟨p2, rfl, ?_⟩)
      have n2 : p2 ≠ D := fun z => by rw [z, s4 _ _ hD] at hp2n; cases hp2n
      refine frs_of ?_ (by rw [hide_ne n2, upd_same]; unfold cs; rw [List.map_append, List.map_append]; rfl)
      cases e : H1 p2 with
      | none => rfl
      | some u => rw [s4 _ _ (s3 _ _ e)] at hp2n; cases hp2n
  · exact q0 _ _ (s1.trans s2) (r.mono (frs_old s1))
def hd2 (H : Hp) (F J : Addr) : Hp := hide (hide H F) J
theorem hd2_same (H : Hp) (F J : Addr) : Same (hd2 H F J) H := (hide_same _ _).trans (hide_same _ _)
theorem hd2_mono {H H' : Hp} (F J : Addr) (s : Same H H') : Same (hd2 H F J) (hd2 H' F J) := hide_mono J (hide_mono F s)
theorem hd2_ne {H : Hp} {F J b : Addr} (h1 : b ≠ F) (h2 : b ≠ J) : hd2 H F J b = H b := (hide_ne h2).trans (hide_ne h1)
theorem hd2_F (H : Hp) (F J : Addr) (o : HO) : hd2 (upd H F o) F J = hd2 H F J := by unfold hd2; rw [hide_upd]
theorem hd2_J (H : Hp) (F J : Addr) (o : HO) (ne : F ≠ J) : hd2 (upd H J o) F J = hd2 H F J := by
  funext b
  by_cases c : b = J
  · subst c; unfold hd2; rw [hide_at, hide_at]
  · by_cases d : b = F
    · subst d; unfold hd2; rw [hide_ne ne, hide_at, hide_ne ne, hide_at]
    · rw [hd2_ne d c, hd2_ne d c, upd_ne c]
theorem hd2_new {H0 H : Hp} {F J : Addr} {o u : HO} (hF : H0 F = some o) (hJ : H0 J = some u) : Same (frs H0 H) (hd2 H F J) := fun b x h => by
  obtain ⟨h1, h2⟩ := frs_at h
  rw [hd2_ne (fun z => by rw [z, hF] at h1; cases h1) (fun z => by rw [z, hJ] at h1; cases h1)]
  exact h2
theorem RpA.edges2 {H : Hp} {F J : Addr} {zs ws : List V} (hF : H F = some (.lst zs)) (hJ : H J = some (.lst ws)) {E : List Ed} {vs : List V} (h : RpA H vs (E.map eE)) : RpA (hd2 H F J) vs (E.map eE) := by
  by_cases c : F = J
  · subst c
    have := h.hideE hF
    have e : hd2 H F F = hide H F := by
      funext b
      by_cases d : b = F
      · subst d; unfold hd2; rw [hide_at, hide_at]
      · rw [hd2_ne d d, hide_ne d]
    rw [e]; exact this
  · exact (h.hideE hF).hideE (by rw [hide_ne (Ne.symm c)]; exact hJ)
end
end WK

-- part W14
set_option maxRecDepth 100000
set_option maxHeartbeats 4000000
namespace WK
open PySem PySem.Spec PyProof.Rows L2
theorem ltl_ch {g : Kqg4.Graph} (h : MG.Ord g) (q : List Nat) : ltl g q = MG.ch g q := by
  unfold ltl MG.ch
  rw [MG.nb_eq h]
theorem kids_take {a n t : Nat} {L : List (List Nat)} (h : t < L.length) : (MG.kids a n L).take (t + 1) = (MG.kids a n L).take t ++ [(a, n + t)] := by
  refine take_snoc ?_
  unfold MG.kids
  rw [List.getElem?_map, List.getElem?_range h]; rfl
section
variable {P : Program} {w : World} {K : PySem.W.Frag} {mg : Str → Option Value} {base : Heap} {C : Addr}
abbrev s_paths_and_joins : Stmt := topS 16
theorem sc_paths_and_joins : FnScope ["graph", "vertex", "found", "joins", "at", "path"] ["graph", "vertex"] (defScope s_paths_and_joins) := ⟨rfl, rfl, rfl, by decide +kernel, rfl, by decide +kernel, by decide +kernel⟩
def spPaj (C : Addr) : Sp := fun vs H Q _ => ∃ (gv : V) (g : Kqg4.Graph) (v : Nat), vs = [gv, .int (v : Nat)] ∧ GAt C H gv g ∧ Sm g ∧ MG.Ord g ∧ v < g.vertexCount ∧ g.vertexCount ≤ 7 ∧
  ∀ t F J Fl Jl H', Same H H' → H' t = some (.tup [F, J]) → Rp H' F (.list (Fl.map eP)) → Rp H' J (.list (Jl.map eE)) → MG.Bfs g v Fl Jl Fl.length → Q (.ref t) H'
theorem d_paths_and_joins (T : Nm K mg) (G : GC K C) (d_longer_paths : Cl P w K mg base CX0 2 "longer_paths" (spLong C)) (D : Df K mg "paths_and_joins" s_paths_and_joins ["graph", "vertex"]) : Cl P w K mg base CX0 3 "paths_and_joins" (spPaj C) := by
  refine D.cl sc_paths_and_joins (fun vs H Q E h => ?_) (fun f cdv A outer s H vs Q E hr h => ?_)
  · obtain ⟨_, _, _, rfl, _⟩ := h; rfl
  refine ⟨_, (pss_cons (ps_par (i := 2) (j := 3) (by rfl) sc_paths_and_joins.nd rfl rfl (by decide) rfl rfl (pa_cons (pe_lst (pa_cons (pe_lst (pa_cons (pv 1) pa_nil)) pa_nil)) (pa_cons (pe_lst pa_nil) pa_nil)) (by rfl))
        (pss_cons (ps_set (i := 4) sc_paths_and_joins.nd rfl (Or.inl rfl) pe_int)
        (pss_cons (ps_while PassesOwn.never (pt_cmpR (op_lt) (pv 4) (pe_callB (k_len (K := K) rfl) rfl T.n_len (by decide +kernel) (pa_cons (pv 2) pa_nil)) (nomark _)) (pss_cons (ps_for PassesOwn.never rfl (pi_list (pe_c0 d_longer_paths hr (by decide) rfl (pa_cons (pv 0) (pa_cons (pe_ix (k_ixL (K := K) rfl) (pv 2) (pv 4) (fun _ _ => rfl)) pa_nil)))) (pg_name (i := 5) sc_paths_and_joins.nd rfl (Or.inl rfl)) (pss_cons (ps_expr (pe_bm PySem.F.plainAttrs_list PySem.F.slot_list_append PySem.F.type_list_append mt_append (pv 3) (pa_cons (pe_tup (pa_cons (pv 4) (pa_cons (pe_callB (k_len (K := K) rfl) rfl T.n_len (by decide +kernel) (pa_cons (pv 2) pa_nil)) pa_nil))) pa_nil)))
        (pss_one (ps_expr (pe_bm PySem.F.plainAttrs_list PySem.F.slot_list_append PySem.F.type_list_append mt_append (pv 2) (pa_cons (pv 5) pa_nil))))))
        (pss_one (ps_set (i := 4) sc_paths_and_joins.nd rfl (Or.inl rfl) (pe_op op_add (pv 4) pe_int)))))
        (pss_one (ps_ret (pe_tup (pa_cons (pv 2) (pa_cons (pv 3) pa_nil)))))))), ?_⟩
  obtain ⟨gv, g, v, rfl, gt, sm, od, hv, n7, q0⟩ := h
  refine ⟨_, rfl, small5' (by show 1 ≤ 16000000; decide), fun p hp => ⟨small5' (by show 1 ≤ 16000000; decide), fun F hF => ⟨Nat.zero_le _, fun J hJ => ⟨_, _, rfl, ?_⟩⟩⟩⟩
  have s1 := same_upd (o := HO.lst [.int ((v : Nat) : Int)]) hp
  have s2 := s1.trans (same_upd (o := HO.lst [.ref p]) hF)
  have s3 := s2.trans (same_upd (o := HO.lst []) hJ)
  have nFJ : F ≠ J := ne_of_none upd_same hJ
  have npF : p ≠ F := ne_of_none upd_same hF
  have npJ : p ≠ J := ne_of_none (same_upd hF _ _ upd_same) hJ
  have nH : ∀ b o, H b = some o → b ≠ F ∧ b ≠ J := fun b o hb => ⟨ne_of_none (s1 _ _ hb) hF, ne_of_none (s2 _ _ hb) hJ⟩
  have szT := MG.Tp_size n7 v
  refine ⟨fun m σ H2 => ∃ (Fl : List (List Nat)) (Jl : List (Nat × Nat)) (a : Nat) (w0 : Option V) (fs js : List V), m = (MG.Tp g [v]).length - a ∧ σ = [some gv, some (.int (v : Nat)), some (.ref F), some (.ref J), some (.int (a : Nat)), w0] ∧ Same H H2 ∧ H2 F = some (.lst fs) ∧ H2 J = some (.lst js) ∧ RpA (hd2 H2 F J) fs (Fl.map eP) ∧ RpA H2 js (Jl.map eE) ∧ MG.Bfs g v Fl Jl a, ⟨_, [[v]], [], 0, none, [.ref p], [], rfl, rfl, s3, by rw [upd_ne nFJ, upd_same], upd_same, .cons (LI.rp ⟨p, rfl, ?_⟩) .nil, .nil, .init hv⟩, ?_⟩
  · rw [hd2_ne npF npJ, upd_ne npJ, upd_ne npF, upd_same]; rfl
  rintro m σ H2 ⟨Fl, Jl, a, w0, fs, js, rfl, rfl, s4, hF2, hJ2, hfs, hjs, bf⟩
  have lf := hfs.len
  rw [List.length_map] at lf
  refine ⟨_, rfl, _, rfl, F, _, rfl, .inl (SqL.of hF2), _, _, rfl, rfl, _, rfl, ?_⟩
  refine ifb (b := decide (a < fs.length)) (decide_eq_decide.mpr (by omega)) (fun c => ?_) (fun c => ?_)
  · have c2 := of_decide_eq_true c
    have ca : a < Fl.length := by omega
    have bnd := bf.bound
    refine ⟨fun σ' H' => ∃ m', m' < (MG.Tp g [v]).length - a ∧ ∃ (Fl : List (List Nat)) (Jl : List (Nat × Nat)) (a : Nat) (w0 : Option V) (fs js : List V), m' = (MG.Tp g [v]).length - a ∧ σ' = [some gv, some (.int (v : Nat)), some (.ref F), some (.ref J), some (.int (a : Nat)), w0] ∧ Same H H' ∧ H' F = some (.lst fs) ∧ H' J = some (.lst js) ∧ RpA (hd2 H' F J) fs (Fl.map eP) ∧ RpA H' js (Jl.map eE) ∧ MG.Bfs g v Fl Jl a, fun _ _ h => h, ?_⟩
    have ok := bf.ok _ (List.getElem_mem ca)
    have hd : (Fl.map eP)[a]? = some (eP Fl[a]) := by rw [List.getElem?_map, List.getElem?_eq_getElem ca]; rfl
    obtain ⟨y, hy, hyr⟩ := hfs.at hd
    have hyr2 : LI H2 y (cs Fl[a]) := LI.of (hyr.mono (hd2_same _ _ _))
    have lq := MG.nodup_le _ _ ok.nd ok.lt
    refine ⟨_, rfl, _, rfl, _, rfl, F, _, _, _, rfl, rfl, SqL.of hF2, atI_nat hy, ?_⟩
    refine ⟨gv, y, g, Fl[a], rfl, gt.mono s4, sm, hyr2, ok.ne, by omega, fun r H3 s5 hr3 => ?_⟩
    rw [ltl_ch od] at hr3
    have stp := bf.step ca
    have hq : Fl.getD a [] = Fl[a] := by rw [List.getD_eq_getElem?_getD, List.getElem?_eq_getElem ca]; rfl
    rw [hq] at stp
    have bnd2 := stp.bound
    have od2 : ∀ e, e ∈ Jl ++ MG.kids a Fl.length (MG.ch g Fl[a]) → True := fun _ _ => trivial
    generalize MG.ch g Fl[a] = L at hr3 stp bnd2 od2
    rw [List.length_append] at bnd2
    obtain ⟨b, bs, rfl, hbF, hbA⟩ := hr3.list
    obtain ⟨bn, hb⟩ := frs_at hbF
    have nbF : b ≠ F := fun z => by rw [z, hF2] at bn; cases bn
    have nbJ : b ≠ J := fun z => by rw [z, hJ2] at bn; cases bn
    have lb := hbA.len
    rw [List.length_map] at lb
    refine ⟨b, rfl, ⟨_, SqL.of hb⟩, ?_⟩
    refine for_list (xs := bs) (fun t σ H4 => ∃ w1 js', σ = [some gv, some (.int (v : Nat)), some (.ref F), some (.ref J), some (.int (a : Nat)), w1] ∧ Same H H4 ∧ H4 b = some (.lst bs) ∧ H4 F = some (.lst (fs ++ bs.take t)) ∧ H4 J = some (.lst js') ∧ RpA (hd2 H4 F J) fs (Fl.map eP) ∧ RpA (hd2 H4 F J) bs (L.map eP) ∧ RpA H4 js' ((Jl ++ (MG.kids a Fl.length L).take t).map eE)) ?_ ?_ ?_ ?_
    · refine ⟨w0, js, rfl, s4.trans s5, hb, ?_, s5 _ _ hJ2, hfs.mono (hd2_mono F J s5), hbA.mono (hd2_new hF2 hJ2), ?_⟩
      · rw [List.take_zero, List.append_nil]; exact s5 _ _ hF2
      · rw [List.take_zero, List.append_nil]; exact hjs.mono s5
    · rintro t σ H4 ht ⟨w1, js', rfl, s6, hb4, _⟩
      exact SqL.of hb4
    · rintro t x σ H4 hx ⟨w1, js', rfl, s6, hb4, hF4, hJ4, hfs4, hbs4, hjs4⟩
      have ht : t < L.length := by
        have := (List.getElem?_eq_some_iff.mp hx).1
        omega
      have lj := hjs4.len
      have ljk : (MG.kids a Fl.length L).length = L.length := by unfold MG.kids; rw [List.length_map, List.length_range]
      rw [List.length_map, List.length_append, List.length_take, ljk] at lj
      have lJ := stp.jl
      have ljl : Jl.length ≤ 4000000 := by
        have j1 := stp.jp.length_eq
        rw [List.length_append, MG.lab, List.length_map, List.length_append] at j1
        have j2 : (MG.Te g [v]).length ≤ 4000000 := by
          refine Nat.le_trans ?_ szT
          exact MG.Te_le od v
        omega
      refine ⟨_, rfl, .inl ⟨rfl, _, SqL.of hJ4⟩, ?_⟩
      refine ⟨_, rfl, _, rfl, F, _, rfl, .inl (SqL.of hF4), small5' (by show 2 ≤ 16000000; decide), fun T0 hT => ?_⟩
      have s7 := same_upd (o := HO.tup [.int ((a : Nat) : Int), .int ((fs ++ bs.take t).length : Int)]) hT
      refine ⟨J, js', _, rfl, rfl, s7 _ _ hJ4, small5 (by omega), ?_⟩
      have nTJ : T0 ≠ J := fun z => by rw [z, hJ4] at hT; cases hT
      refine ⟨_, rfl, .inl ⟨rfl, _, SqL.of (by rw [upd_ne nFJ]; exact s7 _ _ hF4)⟩, ?_⟩
      refine ⟨_, rfl, F, fs ++ bs.take t, _, rfl, rfl, by rw [upd_ne nFJ]; exact s7 _ _ hF4, small5 ?_, some x, js' ++ [.ref T0], rfl, ?_, ?_, ?_, ?_, ?_, ?_, ?_⟩
      · rw [List.length_append, List.length_take]; omega
      · intro d o hdo
        obtain ⟨n1, n2⟩ := nH d o hdo
        rw [upd_ne n1, upd_ne n2]
        exact s7 _ _ (s6 _ _ hdo)
      · rw [upd_ne nbF, upd_ne nbJ]; exact s7 _ _ hb4
      · rw [upd_same, take_snoc hx, List.append_assoc]
      · rw [upd_ne (Ne.symm nFJ), upd_same]
      · rw [hd2_F, hd2_J _ _ _ _ nFJ]; exact hfs4.mono (hd2_mono F J s7)
      · rw [hd2_F, hd2_J _ _ _ _ nFJ]; exact hbs4.mono (hd2_mono F J s7)
      · have e1 := hjs4.mono s7
        have e2 := e1.edges2 (F := F) (J := J) (s7 _ _ hF4) (s7 _ _ hJ4)
        have lt2 : (fs ++ bs.take t).length = Fl.length + t := by rw [List.length_append, List.length_take]; omega
        have e3 : RpA (hd2 (upd H4 T0 (HO.tup [.int ((a : Nat) : Int), .int ((fs ++ bs.take t).length : Int)])) F J) (js' ++ [.ref T0]) ((Jl ++ (MG.kids a Fl.length L).take (t + 1)).map eE) := by
          rw [kids_take ht, ← List.append_assoc, List.map_append]
          refine e2.snoc (Rp.of_edge ?_)
          have nTF : T0 ≠ F := fun z => by rw [z, hF4] at hT; cases hT
          rw [hd2_ne nTF nTJ, upd_same, lt2]
        rw [← hd2_J _ F J (.lst (js' ++ [.ref T0])) nFJ, ← hd2_F _ F J (.lst (fs ++ bs.take t ++ [x]))] at e3
        exact e3.mono (hd2_same _ _ _)
    · rintro σ H4 ⟨w1, js', rfl, s6, hb4, hF4, hJ4, hfs4, hbs4, hjs4⟩
      rw [List.take_length] at hF4
      have e4 : (MG.kids a Fl.length L).take bs.length = MG.kids a Fl.length L := List.take_of_length_le (by unfold MG.kids; rw [List.length_map, List.length_range]; omega)
      rw [e4] at hjs4
      refine ⟨_, rfl, _, _, rfl, rfl, (MG.Tp g [v]).length - (a + 1), by omega, Fl ++ L, Jl ++ MG.kids a Fl.length L, a + 1, w1, fs ++ bs, js', rfl, rfl, s6, hF4, hJ4, ?_, hjs4, stp⟩
      rw [List.map_append]
      exact hfs4.app hbs4
  · have c2 := of_decide_eq_false c
    have ea : a = Fl.length := by have := bf.le; omega
    subst ea
    refine ⟨_, rfl, _, rfl, small5' (by show 2 ≤ 16000000; decide), fun t ht => ?_⟩
    have s5 := same_upd (o := HO.tup [.ref F, .ref J]) ht
    exact q0 t _ _ Fl Jl _ (s4.trans s5) upd_same (.lst (s5 _ _ hF2) (hfs.mono ((hd2_same _ _ _).trans s5))) (.lst (s5 _ _ hJ2) (hjs.mono s5)) bf
abbrev s_count_paths : Stmt := topS 17
theorem sc_count_paths : FnScope ["graph", "vertex"] ["graph", "vertex"] (defScope s_count_paths) := ⟨rfl, rfl, rfl, by decide +kernel, rfl, by decide +kernel, by decide +kernel⟩
def spCp (C : Addr) : Sp := fun vs H Q _ => ∃ (gv : V) (g : Kqg4.Graph) (v : Nat), vs = [gv, .int (v : Nat)] ∧ GAt C H gv g ∧ Sm g ∧ MG.Ord g ∧ v < g.vertexCount ∧ g.vertexCount ≤ 7 ∧ ∀ H', Same H H' → Q (.int ((Kqg4.paths g v).length : Nat)) H'
theorem d_count_paths (T : Nm K mg) (G : GC K C) (d_paths_and_joins : Cl P w K mg base CX0 3 "paths_and_joins" (spPaj C)) (D : Df K mg "count_paths" s_count_paths ["graph", "vertex"]) : Cl P w K mg base CX0 4 "count_paths" (spCp C) := by
  refine D.cl sc_count_paths (fun vs H Q E h => ?_) (fun f cdv A outer s H vs Q E hr h => ?_)
  · obtain ⟨_, _, _, rfl, _⟩ := h; rfl
  refine ⟨_, (pss_one (ps_ret (pe_callB (k_len (K := K) rfl) rfl T.n_len (by decide +kernel) (pa_cons (pe_ix (k_ixT (K := K) rfl) (pe_c0 d_paths_and_joins hr (by decide) rfl (pa_cons (pv 0) (pa_cons (pv 1) pa_nil))) pe_int (fun _ _ => rfl)) pa_nil)))), ?_⟩
  obtain ⟨gv, g, v, rfl, gt, sm, od, hv, n7, q0⟩ := h
  refine ⟨_, rfl, _, rfl, gv, g, v, rfl, gt, sm, od, hv, n7, fun t F J Fl Jl H1 s1 ht hF hJ bf => ?_⟩
  obtain ⟨a, fs, rfl, ha, hA⟩ := hF.list
  refine ⟨t, _, _, _, rfl, rfl, SqT.of ht, atI0, a, fs, rfl, .inl (SqL.of ha), ?_⟩
  rw [hA.len, List.length_map, (bf.done hv).1]
  exact q0 _ s1
abbrev s_path_tree : Stmt := topS 18
theorem sc_path_tree : FnScope ["graph", "vertex", "paths", "joins"] ["graph", "vertex"] (defScope s_path_tree) := ⟨rfl, rfl, rfl, by decide +kernel, rfl, by decide +kernel, by decide +kernel⟩
def spPt (C : Addr) : Sp := fun vs H Q _ => ∃ (gv : V) (g : Kqg4.Graph) (v : Nat), vs = [gv, .int (v : Nat)] ∧ GAt C H gv g ∧ Sm g ∧ MG.Ord g ∧ v < g.vertexCount ∧ g.vertexCount ≤ 7 ∧
  ∀ E' Jl r H', SortOf E' Jl → Jl.length = (MG.pe g g.vertexCount [v]).length → (∀ k, MG.cnt Jl k = MG.cnt (MG.pe g g.vertexCount [v]) k) → Same H H' → GAt C H' r ⟨(Kqg4.paths g v).length, E'⟩ → Q r H'
theorem d_path_tree (T : Nm K mg) (G : GC K C) (mk_Graph : Mk1 P w K mg base 1 "Graph" C (spGInit C)) (d_paths_and_joins : Cl P w K mg base CX0 3 "paths_and_joins" (spPaj C)) (D : Df K mg "path_tree" s_path_tree ["graph", "vertex"]) : Cl P w K mg base CX0 4 "path_tree" (spPt C) := by
  refine D.cl sc_path_tree (fun vs H Q E h => ?_) (fun f cdv A outer s H vs Q E hr h => ?_)
  · obtain ⟨_, _, _, rfl, _⟩ := h; rfl
  refine ⟨_, (pss_cons (ps_asg (pe_c0 d_paths_and_joins hr (by decide) rfl (pa_cons (pv 0) (pa_cons (pv 1) pa_nil))) (pg_tup (by rfl) (pgs_cons (pg_name (i := 2) sc_path_tree.nd rfl (Or.inl rfl)) (pgs_cons (pg_name (i := 3) sc_path_tree.nd rfl (Or.inl rfl)) pgs_nil))))
        (pss_one (ps_ret (pe_g1 mk_Graph hr (by decide) rfl (pa_cons (pe_callB (k_len (K := K) rfl) rfl T.n_len (by decide +kernel) (pa_cons (pv 2) pa_nil)) (pa_cons (pv 3) pa_nil)))))), ?_⟩
  obtain ⟨gv, g, v, rfl, gt, sm, od, hv, n7, q0⟩ := h
  refine ⟨_, rfl, _, rfl, gv, g, v, rfl, gt, sm, od, hv, n7, fun t F J Fl Jl H1 s1 ht hF hJ bf => ?_⟩
  obtain ⟨a, fs, rfl, ha, hA⟩ := hF.list
  refine ⟨t, _, rfl, SqT.of ht, rfl, _, _, rfl, _, _, rfl, rfl, ?_⟩
  refine ⟨_, rfl, a, fs, rfl, .inl (SqL.of ha), _, rfl, ?_⟩
  obtain ⟨d1, d2, d3⟩ := bf.done hv
  have z := made_graph (C := C) (n := (Kqg4.paths g v).length) (Q := Q) hJ fun E' v H' so s4 gt => q0 E' Jl v H' so d2 d3 (s1.trans s4) gt
  have e : fs.length = (Kqg4.paths g v).length := by rw [hA.len, List.length_map, d1]
  rw [← e] at z
  exact z
end
end WK

-- part W15
set_option maxRecDepth 100000
set_option maxHeartbeats 4000000
namespace WK
open PySem PySem.Spec PyProof.Rows L2
/-! ## Refusing -/
section
variable {P : Program} {w : World} {K : PySem.W.Frag} {mg : Str → Option Value} {base : Heap} {C CR DC : Addr}
abbrev s_Refused___init__ : Stmt := inClass (topS 42) 0
theorem sc_Refused___init__ : FnScope ["self", "code"] ["self", "code"] (defScope s_Refused___init__) := ⟨rfl, rfl, rfl, by decide +kernel, rfl, by decide +kernel, by decide +kernel⟩
structure RC (K : PySem.W.Frag) (mg : Str → Option Value) (CR : Addr) : Prop where
  ox : OexC K CR
  ini : ∃ (fI : Addr) (fd : FuncData), PySem.W.findIn K (.ref CR) "__init__" = some (some (.ref fI)) ∧ PySem.W.typeIn K (.ref fI) = some (.type "function") ∧ Fun K "__init__" "Refused.__init__" s_Refused___init__ fI fd ∧ Binds K fd ["self", "code"] []
  mC : mg "Refused" = some (.ref CR)
  noc : PySem.W.findIn K (.ref CR) "code" = some none
  xf : XfC K CR
  te : PySem.W.exmOne K (.ref CR) (.ref CR) = some true
def spRInit (CR : Addr) : Sp := fun vs H Q _ => ∃ (a : Addr) (c : Int), vs = [.ref a, .int c] ∧ H a = some (exo a CR none) ∧ ∀ dx, H dx = none → dx ≠ a → Q .non (upd (upd H dx (exd dx [("code", .int c)])) a (exo a CR (some dx)))
theorem ok_RInit (T : Nm K mg) (R : RC K mg CR) {f : Addr} {fd : FuncData} (F : Fun K "__init__" "Refused.__init__" s_Refused___init__ f fd) : FnOk P w K mg base CX0 1 f fd ["self", "code"] (spRInit CR) := by
  refine F.ok sc_Refused___init__ (fun vs H Q E h => ?_) (fun cdv A outer s H vs Q E hr h => ?_)
  · obtain ⟨_, _, rfl, _⟩ := h; rfl
  refine ⟨_, (pss_cons (ps_expr (pe_veinit rfl T.n_ValueError T.vV (pa_cons (pv 0) (pa_cons pe_str pa_nil)))) (pss_one (ps_ost (pv 0) (pv 1)))), ?_⟩
  obtain ⟨a, c, rfl, ha, q⟩ := h
  refine ⟨_, rfl, a, CR, _, rfl, (by show 1 ≤ 1000; decide), R.ox, ha, ?_⟩
  exact ⟨_, rfl, _, rfl, a, CR, rfl, R.ox, R.noc, .inl ⟨ha, fun dx h1 h2 => q dx h1 h2⟩⟩
abbrev s_want : Stmt := topS 43
theorem sc_want : FnScope ["is_so", "code"] ["is_so", "code"] (defScope s_want) := ⟨rfl, rfl, rfl, by decide +kernel, rfl, by decide +kernel, by decide +kernel⟩
def spWant (CR : Addr) : Sp := fun vs H Q E => ∃ (b : Bool) (c : Int), vs = [.bl b, .int c] ∧ (b = true → Q .non H) ∧ (b = false → ∀ d H', Same H H' → H' d = some (.xd [("code", .int c)]) → E (.ref CR) (some d) H')
theorem d_want (T : Nm K mg) (R : RC K mg CR) (D : Df K mg "want" s_want ["is_so", "code"]) : Cl P w K mg base (L2.CX P w) 3 "want" (spWant CR) := by
  refine D.clX sc_want (fun vs H Q E h => ?_) (fun f cdv A outer s H vs Q E hr h => ?_)
  · obtain ⟨_, _, rfl, _⟩ := h; rfl
  have tk : Takes (cxOf (L2.CX P w) P w K mg base ["is_so", "code"] "want" (defScope s_want) f cdv A outer s H E) (fun cls d _ H => E cls d H) := takes_of rfl rfl rfl rfl
  obtain ⟨fI, fd, iC, tI, F, bi⟩ := R.ini
  refine ⟨_, (pss_one (ps_if (pt_not (pt_val (pv 0))) (pss_one (ps_raise rfl tk (pmk_oex R.ox iC tI (ok_RInit T R F) hr bi .nil pass0 rfl R.mC (pa_cons (pv 1) pa_nil)))) pss_nil)), ?_⟩
  obtain ⟨b, c, rfl, q1, q2⟩ := h
  refine ⟨_, rfl, _, rfl, ?_⟩
  refine ifb (b := !b) rfl (fun h => ?_) (fun h => q1 (by simpa using h))
  refine ⟨_, rfl, (by show 1 ≤ 1000; decide), fun a ha => ⟨a, c, rfl, upd_same, fun dx hdx ne => ⟨rfl, dx, [("code", .int c)], upd_same, ?_, ?_, ?_⟩⟩⟩
  · rw [upd_ne ne, upd_same]
  · rw [upd_ne ne] at hdx; exact hdx
  · rw [upd_ne ne] at hdx
    refine q2 (by simpa using h) dx _ (fun b o hb => ?_) upd_same
    have n1 : b ≠ dx := ne_of_none hb hdx
    have n2 : b ≠ a := ne_of_none hb ha
    rw [upd_ne n1, del_ne n2, upd_ne n2, upd_ne n1, upd_ne n2]
    exact hb
end
end WK

-- part W16
set_option maxRecDepth 100000
set_option maxHeartbeats 4000000
namespace WK
open PySem PySem.Spec PyProof.Rows L2
/-! ## The desk -/
def ErrK (CR : Addr) (E : XK) (H : Hp) (c : Int) : Prop := ∀ d H', Same H H' → H' d = some (.xd [("code", .int c)]) → E (.ref CR) (some d) H'
theorem ErrK.mono {CR : Addr} {E : XK} {H H' : Hp} {c : Int} (s : Same H H') (h : ErrK CR E H c) : ErrK CR E H' c := fun d H2 s2 hd => h d H2 (s.trans s2) hd
def ns (l : List Nat) : List Int := l.map fun n : Nat => (n : Int)
section
variable {P : Program} {w : World} {K : PySem.W.Frag} {mg : Str → Option Value} {base : Heap} {C CR DC : Addr}
abbrev s_want_vertices : Stmt := topS 58
theorem sc_want_vertices : FnScope ["graph", "some", "vertex"] ["graph", "some"] (defScope s_want_vertices) := ⟨rfl, rfl, rfl, by decide +kernel, rfl, by decide +kernel, by decide +kernel⟩
def spWv (C CR : Addr) : Sp := fun vs H Q E => ∃ (gv nv : V) (g : Kqg4.Graph) (l : List Nat), vs = [gv, nv] ∧ GAt C H gv g ∧ LI H nv (ns l) ∧ l.length ≤ 1000 ∧
  ((l.all fun v => decide (v < g.vertexCount)) = true → ∀ H', Same H H' → Q .non H') ∧ ((l.all fun v => decide (v < g.vertexCount)) = false → ErrK CR E H (-2))
theorem d_want_vertices (T : Nm K mg) (G : GC K C) (d_want : Cl P w K mg base (L2.CX P w) 3 "want" (spWant CR)) (D : Df K mg "want_vertices" s_want_vertices ["graph", "some"]) : Cl P w K mg base (L2.CX P w) 4 "want_vertices" (spWv C CR) := by
  refine D.clX sc_want_vertices (fun vs H Q E h => ?_) (fun f cdv A outer s H vs Q E hr h => ?_)
  · obtain ⟨_, _, _, _, rfl, _⟩ := h; rfl
  have tk : Takes (cxOf (L2.CX P w) P w K mg base ["graph", "some", "vertex"] "want_vertices" (defScope s_want_vertices) f cdv A outer s H E) (fun cls d _ H => E cls d H) := takes_of rfl rfl rfl rfl
  refine ⟨_, (pss_one (ps_expr (pe_cx d_want hr (by decide) rfl tk (pa_cons (pe_callB (cr_all rfl) rfl T.n_all (by decide +kernel) (pa_cons (pe_lc (own := [("vertex", 2)]) rfl sc_want_vertices.nd (pi_list (pv 1)) (blkOk_by (N := ["graph", "some", "vertex"]) (sc := defScope s_want_vertices) (by decide +kernel)) (fun _ _ _ _ _ => pg_name (i := 2) sc_want_vertices.nd rfl (Or.inl rfl)) (fun _ _ _ _ _ => pts_nil) (fun _ _ _ _ _ => (pe_cmpR (op_lt) (pv 2) (k_fld (K := K) rfl (pv 0) rfl) (nomark _)))) pa_nil)) (pa_cons (pe_gc rfl T.c_NOT_THERE) pa_nil))))), ?_⟩
  obtain ⟨gv, nv, g, l, rfl, gt, hn, le, q1, q2⟩ := h
  obtain ⟨ga, gdx, el, rfl, h1, h2⟩ := id gt
  obtain ⟨na, rfl, hna⟩ := hn
  refine ⟨_, rfl, na, rfl, ⟨_, SqL.of hna⟩, ?_⟩
  have hA : RpA H ((ns l).map V.int) (l.map fun n => PyData.int (n : Nat)) := by
    have := RpA.of_ints (H := H) (ns l)
    unfold ns at this ⊢
    rw [List.map_map, List.map_map] at this
    rw [List.map_map]
    exact this
  refine comp_list l (fun n => PyData.int (n : Nat)) (fun _ => true) (fun v => decide (v < g.vertexCount)) PyData.bool (SqL.of hna) hA (by omega) (fun x y H2 D acc C2 N2 hx s2 hD hy pT pF => ?_) (fun D H2 nD s2 r => ?_)
  · cases hy
    have s3 := s2.trans (hide_same H2 D)
    refine ⟨rfl, _, rfl, _, rfl, ga, C, gdx, _, _, rfl, s3 _ _ h1, G.cl, G.nV, lkV, _, _, rfl, rfl, pT rfl _ _ (Same.refl _) ?_⟩
    have e : decide (((x : Nat) : Int) < ((g.vertexCount : Nat) : Int)) = decide (x < g.vertexCount) := decide_eq_decide.mpr (by omega)
    show Rp _ (.bl (decide (((x : Nat) : Int) < ((g.vertexCount : Nat) : Int)))) _
    rw [e]; exact .bl _
  · rw [filtT] at r
    obtain ⟨D', ys, e2, hD, hR⟩ := r.list
    cases e2
    have := RpA.bools hR
    subst this
    refine ⟨D, _, rfl, SqL.of hD, ?_⟩
    refine ⟨_, _, rfl, fun b => q1 ?_ _ s2, fun b => (q2 ?_).mono s2⟩
    · rw [List.all_map] at b; exact b
    · rw [List.all_map] at b; exact b
abbrev s_want_edge : Stmt := topS 59
theorem sc_want_edge : FnScope ["graph", "numbers", "edge"] ["graph", "numbers"] (defScope s_want_edge) := ⟨rfl, rfl, rfl, by decide +kernel, rfl, by decide +kernel, by decide +kernel⟩
def spWe (C CR : Addr) : Sp := fun vs H Q E => ∃ (gv nv : V) (g : Kqg4.Graph) (a b : Nat), vs = [gv, nv] ∧ GAt C H gv g ∧ LI H nv [(a : Int), (b : Int)] ∧
  ((g.vertexCount ≤ a ∨ g.vertexCount ≤ b) → ErrK CR E H (-2)) ∧
  (a < g.vertexCount → b < g.vertexCount → (min a b, max a b) ∉ g.edges → ErrK CR E H (-33)) ∧
  (a < g.vertexCount → b < g.vertexCount → (min a b, max a b) ∈ g.edges → ∀ r H', Same H H' → Rp H' r (eE (min a b, max a b)) → Q r H')
theorem d_want_edge (T : Nm K mg) (G : GC K C) (d_want : Cl P w K mg base (L2.CX P w) 3 "want" (spWant CR)) (d_want_vertices : Cl P w K mg base (L2.CX P w) 4 "want_vertices" (spWv C CR)) (d_edge_of : Cl P w K mg base CX0 1 "edge_of" spEdgeOf) (D : Df K mg "want_edge" s_want_edge ["graph", "numbers"]) : Cl P w K mg base (L2.CX P w) 5 "want_edge" (spWe C CR) := by
  refine D.clX sc_want_edge (fun vs H Q E h => ?_) (fun f cdv A outer s H vs Q E hr h => ?_)
  · obtain ⟨_, _, _, _, _, rfl, _⟩ := h; rfl
  have tk : Takes (cxOf (L2.CX P w) P w K mg base ["graph", "numbers", "edge"] "want_edge" (defScope s_want_edge) f cdv A outer s H E) (fun cls d _ H => E cls d H) := takes_of rfl rfl rfl rfl
  refine ⟨_, (pss_cons (ps_expr (pe_cx d_want_vertices hr (by decide) rfl tk (pa_cons (pv 0) (pa_cons (pv 1) pa_nil))))
        (pss_cons (ps_set (i := 2) sc_want_edge.nd rfl (Or.inl rfl) (pe_c0 d_edge_of hr (by decide) rfl (pa_cons (pe_ix (k_ixL (K := K) rfl) (pv 1) pe_int (fun _ _ => rfl)) (pa_cons (pe_ix (k_ixL (K := K) rfl) (pv 1) pe_int (fun _ _ => rfl)) pa_nil))))
        (pss_cons (ps_expr (pe_cx d_want hr (by decide) rfl tk (pa_cons (pe_cmpR (k_inD (K := K) rfl (hu65 hr)) (pv 2) (k_fld (K := K) rfl (pv 0) rfl) (by rfl)) (pa_cons (pe_gc rfl T.c_NO_EDGE) pa_nil))))
        (pss_one (ps_ret (pv 2)))))), ?_⟩
  obtain ⟨gv, nv, g, a, b, rfl, gt, hn, q1, q2, q3⟩ := h
  obtain ⟨ga, gdx, el, rfl, h1, h2⟩ := id gt
  refine ⟨_, rfl, _, rfl, _, _, g, [a, b], rfl, gt, hn, (by show 2 ≤ 1000; decide), fun hall H1 s1 => ?_, fun hall => q1 ?_⟩
  · simp only [List.all_cons, List.all_nil, Bool.and_true, Bool.and_eq_true, decide_eq_true_eq] at hall
    obtain ⟨na, rfl, hna⟩ := hn
    refine ⟨_, rfl, na, _, _, .int (a : Nat), rfl, rfl, SqL.of (s1 _ _ hna), atI0, ?_⟩
    refine ⟨_, rfl, na, _, _, .int (b : Nat), rfl, rfl, SqL.of (s1 _ _ hna), atI1, ?_⟩
    refine ⟨a, b, rfl, fun r H2 s2 hr2 => ?_⟩
    refine ⟨_, rfl, _, rfl, ga, C, gdx, _, _, rfl, s2 _ _ (s1 _ _ h1), G.cl, G.nE, lkE, ?_⟩
    refine ⟨_, _, hr2.dp, ((h2.mono s1).mono s2).dp, eE_shaped _, eEs_shaped _, ?_⟩
    rw [any_mem]
    refine ⟨_, _, rfl, fun c => ?_, fun c => ?_⟩
    · exact ⟨_, rfl, q3 hall.1 hall.2 (of_decide_eq_true c) _ _ (s1.trans s2) hr2⟩
    · exact (q2 hall.1 hall.2 (of_decide_eq_false c)).mono (s1.trans s2)
  · simp only [List.all_cons, List.all_nil, Bool.and_true, Bool.and_eq_false_iff, decide_eq_false_iff_not] at hall
    omega
abbrev s_want_fraction : Stmt := topS 60
theorem sc_want_fraction : FnScope ["numbers", "is_right"] ["numbers"] (defScope s_want_fraction) := ⟨rfl, rfl, rfl, by decide +kernel, rfl, by decide +kernel, by decide +kernel⟩
def spWf (CR : Addr) : Sp := fun vs H Q E => ∃ (nv : V) (a : Int) (b : Nat), vs = [nv] ∧ LI H nv [a, (b : Int)] ∧
  (Kqg1.isArgument a b = true → Q .non H) ∧ (Kqg1.isArgument a b = false → ErrK CR E H (-22))
theorem isArg (a : Int) (b : Nat) : Kqg1.isArgument a b = (decide (-1000000 ≤ a) && decide (a ≤ 1000000) && (decide ((1 : Int) ≤ (b : Int)) && decide ((b : Int) ≤ 1000))) := by
  unfold Kqg1.isArgument
  have e1 : decide (a.natAbs ≤ 1000000) = (decide (-1000000 ≤ a) && decide (a ≤ 1000000)) := by
    by_cases c : a.natAbs ≤ 1000000
    · rw [decide_eq_true c, decide_eq_true (by omega), decide_eq_true (by omega)]; rfl
    · rw [decide_eq_false c]
      by_cases d : -1000000 ≤ a
      · rw [decide_eq_true d, decide_eq_false (by omega)]; rfl
      · rw [decide_eq_false d]; rfl
  have e2 : decide (1 ≤ b) = decide ((1 : Int) ≤ (b : Int)) := decide_eq_decide.mpr (by omega)
  have e3 : decide (b ≤ 1000) = decide ((b : Int) ≤ 1000) := decide_eq_decide.mpr (by omega)
  rw [e1, e2, e3, Bool.and_assoc]
theorem d_want_fraction (T : Nm K mg) (d_want : Cl P w K mg base (L2.CX P w) 3 "want" (spWant CR)) (D : Df K mg "want_fraction" s_want_fraction ["numbers"]) : Cl P w K mg base (L2.CX P w) 4 "want_fraction" (spWf CR) := by
  refine D.clX sc_want_fraction (fun vs H Q E h => ?_) (fun f cdv A outer s H vs Q E hr h => ?_)
  · obtain ⟨_, _, _, rfl, _⟩ := h; rfl
  have tk : Takes (cxOf (L2.CX P w) P w K mg base ["numbers", "is_right"] "want_fraction" (defScope s_want_fraction) f cdv A outer s H E) (fun cls d _ H => E cls d H) := takes_of rfl rfl rfl rfl
  refine ⟨_, (pss_cons (ps_set (i := 1) sc_want_fraction.nd rfl (Or.inl rfl) (pe_and (pe_chain (op_le) (op_le) (pe_un un_neg (pe_gc rfl T.c_MOST_NUMERATOR)) (pe_ix (k_ixL (K := K) rfl) (pv 0) pe_int (fun _ _ => rfl)) (pe_gc rfl T.c_MOST_NUMERATOR)) (pe_one (pe_chain (op_le) (op_le) pe_int (pe_ix (k_ixL (K := K) rfl) (pv 0) pe_int (fun _ _ => rfl)) (pe_gc rfl T.c_MOST_DENOMINATOR)))))
        (pss_one (ps_expr (pe_cx d_want hr (by decide) rfl tk (pa_cons (pv 1) (pa_cons (pe_gc rfl T.c_OUT_OF_RANGE) pa_nil)))))), ?_⟩
  obtain ⟨nv, a, b, rfl, ⟨na, rfl, hna⟩, q1, q2⟩ := h
  have key : ∀ k : Bool, k = Kqg1.isArgument a b → spWant CR [.bl k, .int (-22)] H (fun _ H' => Q .non H') E := fun k hk => ⟨k, -22, rfl, fun h => q1 (hk ▸ h), fun h => q2 (hk ▸ h)⟩
  rw [isArg] at key
  refine ⟨_, rfl, _, rfl, na, _, _, .int a, rfl, rfl, SqL.of hna, atI0, _, _, rfl, rfl, _, rfl, ?_⟩
  refine ifb (b := decide (-1000000 ≤ a)) rfl (fun c1 => ?_) (fun c1 => ?_)
  · refine ⟨_, _, rfl, rfl, _, rfl, ?_⟩
    refine ifb (b := decide (a ≤ 1000000)) rfl (fun c2 => ?_) (fun c2 => ?_)
    · refine ⟨_, rfl, na, _, _, .int (b : Int), rfl, rfl, SqL.of hna, atI1, _, _, rfl, rfl, _, rfl, ?_⟩
      refine ifb (b := decide ((1 : Int) ≤ (b : Int))) rfl (fun c3 => ?_) (fun c3 => ?_)
      · refine ⟨_, _, rfl, rfl, ?_⟩
        exact ⟨_, rfl, key _ (by rw [c1, c2, c3]; rfl)⟩
      · exact ⟨_, rfl, key _ (by rw [c1, c2, c3]; rfl)⟩
    · exact ⟨_, rfl, key _ (by rw [c1, c2]; rfl)⟩
  · refine ⟨_, rfl, ?_⟩
    refine ifb (b := false) rfl (fun z => absurd z (by decide)) (fun _ => ?_)
    exact ⟨_, rfl, key _ (by rw [c1]; rfl)⟩
end
end WK

-- part W17
set_option maxRecDepth 100000
set_option maxHeartbeats 4000000
namespace WK
open PySem PySem.Spec PyProof.Rows L2
open MG (GOK)
/-! ## Deeds -/
structure DC0 (K : PySem.W.Frag) (DC : Addr) : Prop where
  cl : Cls K DC
  nG : NoAttr K DC "graph"
theorem lkG {x : V} : List.lookup ("graph" : Str) [(("graph" : Str), x)] = some x := lk_here
def DkAt (C DC : Addr) (H : Hp) (a : Addr) : Option Kqg4.Graph → Prop
  | none => ∃ dx, H a = some (.ins DC dx [("graph", .non)])
  | some g => ∃ dx gv, H a = some (.ins DC dx [("graph", gv)]) ∧ GAt C H gv g
theorem DkAt.mono {C DC a : Addr} {H H' : Hp} (s : Same H H') : ∀ {st : Option Kqg4.Graph}, DkAt C DC H a st → DkAt C DC H' a st
  | none, ⟨dx, h⟩ => ⟨dx, s _ _ h⟩
  | some g, ⟨dx, gv, h, gt⟩ => ⟨dx, gv, s _ _ h, gt.mono s⟩
/-- the graph's edges do not lie at F -/
def Nl (H : Hp) (a F : Addr) : Prop := ∀ D dx gv C gdx vc l, H a = some (.ins D dx [("graph", .ref gv)]) → H gv = some (.ins C gdx [("vertex_count", vc), ("edges", .ref l)]) → l ≠ F
def SB (a : Addr) (H H' : Hp) : Prop := ∀ b o, b ≠ a → H b = some o → H' b = some o
def spDeed (C DC CR : Addr) (z : Bool) (R : List Int → Kqg4.Request → Prop) : Sp := fun vs H Q E => ∃ (a : Addr) (nv : V) (nums : List Int) (st : Option Kqg4.Graph) (rq : Kqg4.Request), vs = [.ref a, nv] ∧ DkAt C DC H a st ∧ LI H nv nums ∧ R nums rq ∧ (∀ g, st = some g → GOK g) ∧ (z = true → st ≠ none) ∧
  (∀ r H', SB a H H' → DkAt C DC H' a (Kqg4.step st rq).1 → LI H' r (Kqg4Neutral.fields (Kqg4.step st rq).2) → Fr H r → (st = none → ∀ F, H F ≠ none → Nl H' a F) → Q r H') ∧
  (∀ c, Kqg4.step st rq = (st, .value c) → ErrK CR E H c)
theorem li {H : Hp} {p : Addr} (l : List Int) : LI (upd H p (.lst (l.map V.int))) (.ref p) l := ⟨p, rfl, upd_same⟩
theorem mxd_is {g : Kqg4.Graph} (h : MG.Ord g) : mxd g = Kqg4.maxDegree g := by
  unfold mxd Kqg4.maxDegree
  congr 1
  refine List.map_congr_left fun v _ => ?_
  rw [← MG.nb_eq h]
  unfold dg MG.nbN
  rw [List.length_map]; rfl
theorem cts_is (g : Kqg4.Graph) : (Kqg4.matchingCounts g).map (fun x : Nat => (x : Int)) = cts g := by
  rw [MG.counts_is, List.map_map]; rfl
theorem bt_mp (n : Nat) (E : List Ed) (h : E.length ≤ 21) : Bt 22 (MG.mp n E) := fun c hc => by
  unfold MG.mp at hc
  obtain ⟨i, _, rfl⟩ := List.mem_map.mp hc
  split
  · decide
  · have l1 : MG.cnt E ((n - i) / 2) ≤ 2 ^ 21 := Nat.le_trans (List.length_filter_le _ _) (Nat.le_trans (mts_len E) (Nat.pow_le_pow_right (by decide) h))
    have p22 : (2 : Nat) ^ 22 = 2 * 2 ^ 21 := by decide
    rw [Int.natAbs_mul, Int.natAbs_natCast]
    have : (MG.sgn ((n - i) / 2)).natAbs = 1 := by unfold MG.sgn; split <;> rfl
    rw [this, p22]
    have : 0 < 2 ^ 21 := by decide
    omega
theorem sort_eq {E' E : List Ed} (h : SortOf E' E) (o : E.Pairwise MG.ltE) : E' = E := MG.ord_eq h.perm (MG.ord_nodup o) h.ord o fun _ => Iff.rfl
section
variable {P : Program} {w : World} {K : PySem.W.Frag} {mg : Str → Option Value} {base : Heap} {C CR DC : Addr}
def R_list_edges : List Int → Kqg4.Request → Prop := fun l q => l = [] ∧ q = .listEdges
abbrev s_list_edges : Stmt := topS 68
theorem sc_list_edges : FnScope ["desk", "numbers"] ["desk", "numbers"] (defScope s_list_edges) := ⟨rfl, rfl, rfl, by decide +kernel, rfl, by decide +kernel, by decide +kernel⟩
theorem d_list_edges (T : Nm K mg) (G : GC K C) (DK : DC0 K DC) (d_told_edges : Cl P w K mg base CX0 1 "told_edges" spToldE) (D : Df K mg "list_edges" s_list_edges ["desk", "numbers"]) : Cl P w K mg base (L2.CX P w) 2 "list_edges" (spDeed C DC CR true R_list_edges) := by
  refine D.clX sc_list_edges (fun vs H Q E h => ?_) (fun f cdv A outer s H vs Q E hr h => ?_)
  · obtain ⟨_, _, _, _, _, rfl, _⟩ := h; rfl
  have tk : Takes (cxOf (L2.CX P w) P w K mg base ["desk", "numbers"] "list_edges" (defScope s_list_edges) f cdv A outer s H E) (fun cls d _ H => E cls d H) := takes_of rfl rfl rfl rfl
  refine ⟨_, (pss_one (ps_ret (pe_c0 d_told_edges hr (by decide) rfl (pa_cons (k_fld (K := K) rfl (k_fld (K := K) rfl (pv 0) rfl) rfl) pa_nil)))), ?_⟩
  obtain ⟨da, nv, nums, st, rq, rfl, dk, ln, rr, gok, nz, q1, q2⟩ := h
  obtain ⟨g, rfl⟩ : ∃ g, st = some g := Option.ne_none_iff_exists'.mp (nz rfl)
  have GK := gok g rfl
  obtain ⟨dx, gv, ha, gt⟩ := id dk
  obtain ⟨ga, gdx, el, rfl, h1, h2⟩ := id gt
  have n7 := GK.n7
  have n1 := GK.n1
  have e12 := GK.e12
  have sm : Sm g := ⟨by omega, by omega⟩
  have fin : ∀ r H' res, Same H H' → Kqg4.step (some g) rq = (some g, res) → LI H' r (Kqg4Neutral.fields res) → Fr H r → Q r H' := fun r H' res s hs hl hf => q1 r H' (fun b o _ hb => s _ _ hb) (by rw [hs]; exact DkAt.mono s dk) (by rw [hs]; exact hl) hf (fun z => by cases z)
  have er : ∀ c, Kqg4.step (some g) rq = (some g, .value c) → ErrK CR E H c := q2
  obtain ⟨rfl, rfl⟩ := rr
  refine ⟨_, rfl, da, DC, dx, _, _, rfl, ha, DK.cl, DK.nG, lkG, ga, C, gdx, _, _, rfl, h1, G.cl, G.nE, lkE, ?_⟩
  exact ⟨_, g.edges, rfl, h2, by omega, fun r H1 s1 hr1 ff => fin r H1 _ s1 rfl hr1 ff⟩
def R_max_degree : List Int → Kqg4.Request → Prop := fun l q => l = [] ∧ q = .maxDegree
abbrev s_max_degree : Stmt := topS 69
theorem sc_max_degree : FnScope ["desk", "numbers"] ["desk", "numbers"] (defScope s_max_degree) := ⟨rfl, rfl, rfl, by decide +kernel, rfl, by decide +kernel, by decide +kernel⟩
theorem d_max_degree (T : Nm K mg) (G : GC K C) (DK : DC0 K DC) (m_greatest_degree : Mt P w K mg base 2 C "greatest_degree" (spGreat C)) (D : Df K mg "max_degree" s_max_degree ["desk", "numbers"]) : Cl P w K mg base (L2.CX P w) 3 "max_degree" (spDeed C DC CR true R_max_degree) := by
  refine D.clX sc_max_degree (fun vs H Q E h => ?_) (fun f cdv A outer s H vs Q E hr h => ?_)
  · obtain ⟨_, _, _, _, _, rfl, _⟩ := h; rfl
  have tk : Takes (cxOf (L2.CX P w) P w K mg base ["desk", "numbers"] "max_degree" (defScope s_max_degree) f cdv A outer s H E) (fun cls d _ H => E cls d H) := takes_of rfl rfl rfl rfl
  refine ⟨_, (pss_one (ps_ret (pe_lst (pa_cons (pe_mz m_greatest_degree hr (by decide) (k_fld (K := K) rfl (pv 0) rfl)) pa_nil)))), ?_⟩
  obtain ⟨da, nv, nums, st, rq, rfl, dk, ln, rr, gok, nz, q1, q2⟩ := h
  obtain ⟨g, rfl⟩ : ∃ g, st = some g := Option.ne_none_iff_exists'.mp (nz rfl)
  have GK := gok g rfl
  obtain ⟨dx, gv, ha, gt⟩ := id dk
  obtain ⟨ga, gdx, el, rfl, h1, h2⟩ := id gt
  have n7 := GK.n7
  have n1 := GK.n1
  have e12 := GK.e12
  have sm : Sm g := ⟨by omega, by omega⟩
  have fin : ∀ r H' res, Same H H' → Kqg4.step (some g) rq = (some g, res) → LI H' r (Kqg4Neutral.fields res) → Fr H r → Q r H' := fun r H' res s hs hl hf => q1 r H' (fun b o _ hb => s _ _ hb) (by rw [hs]; exact DkAt.mono s dk) (by rw [hs]; exact hl) hf (fun z => by cases z)
  have er : ∀ c, Kqg4.step (some g) rq = (some g, .value c) → ErrK CR E H c := q2
  obtain ⟨rfl, rfl⟩ := rr
  refine ⟨_, rfl, da, DC, dx, _, _, rfl, ha, DK.cl, DK.nG, lkG, ga, gdx, _, rfl, h1, lkM (by decide +kernel) (by decide +kernel), ?_⟩
  refine ⟨_, g, rfl, gt, sm, by omega, fun H1 s1 => ⟨small5' (by show 1 ≤ 16000000; decide), fun p hp => ?_⟩⟩
  rw [mxd_is GK.ord]
  exact fin _ _ (.value (Kqg4.maxDegree g)) (s1.trans (same_upd hp)) rfl (li [((Kqg4.maxDegree g : Nat) : Int)]) (.at (s1) hp)
def R_tell_counts : List Int → Kqg4.Request → Prop := fun l q => l = [] ∧ q = .matchingCounts
abbrev s_tell_counts : Stmt := topS 70
theorem sc_tell_counts : FnScope ["desk", "numbers"] ["desk", "numbers"] (defScope s_tell_counts) := ⟨rfl, rfl, rfl, by decide +kernel, rfl, by decide +kernel, by decide +kernel⟩
theorem d_tell_counts (T : Nm K mg) (G : GC K C) (DK : DC0 K DC) (d_counted : Cl P w K mg base CX0 1 "counted" spCounted) (d_matching_counts : Cl P w K mg base CX0 3 "matching_counts" (spCts C)) (D : Df K mg "tell_counts" s_tell_counts ["desk", "numbers"]) : Cl P w K mg base (L2.CX P w) 4 "tell_counts" (spDeed C DC CR true R_tell_counts) := by
  refine D.clX sc_tell_counts (fun vs H Q E h => ?_) (fun f cdv A outer s H vs Q E hr h => ?_)
  · obtain ⟨_, _, _, _, _, rfl, _⟩ := h; rfl
  have tk : Takes (cxOf (L2.CX P w) P w K mg base ["desk", "numbers"] "tell_counts" (defScope s_tell_counts) f cdv A outer s H E) (fun cls d _ H => E cls d H) := takes_of rfl rfl rfl rfl
  refine ⟨_, (pss_one (ps_ret (pe_c0 d_counted hr (by decide) rfl (pa_cons (pe_c0 d_matching_counts hr (by decide) rfl (pa_cons (k_fld (K := K) rfl (pv 0) rfl) pa_nil)) pa_nil)))), ?_⟩
  obtain ⟨da, nv, nums, st, rq, rfl, dk, ln, rr, gok, nz, q1, q2⟩ := h
  obtain ⟨g, rfl⟩ : ∃ g, st = some g := Option.ne_none_iff_exists'.mp (nz rfl)
  have GK := gok g rfl
  obtain ⟨dx, gv, ha, gt⟩ := id dk
  obtain ⟨ga, gdx, el, rfl, h1, h2⟩ := id gt
  have n7 := GK.n7
  have n1 := GK.n1
  have e12 := GK.e12
  have sm : Sm g := ⟨by omega, by omega⟩
  have fin : ∀ r H' res, Same H H' → Kqg4.step (some g) rq = (some g, res) → LI H' r (Kqg4Neutral.fields res) → Fr H r → Q r H' := fun r H' res s hs hl hf => q1 r H' (fun b o _ hb => s _ _ hb) (by rw [hs]; exact DkAt.mono s dk) (by rw [hs]; exact hl) hf (fun z => by cases z)
  have er : ∀ c, Kqg4.step (some g) rq = (some g, .value c) → ErrK CR E H c := q2
  obtain ⟨rfl, rfl⟩ := rr
  refine ⟨_, rfl, da, DC, dx, _, _, rfl, ha, DK.cl, DK.nG, lkG, ?_⟩
  refine ⟨_, g, rfl, gt, by omega, by omega, fun r H1 s1 hr1 => ?_⟩
  refine ⟨_, _, rfl, hr1, by unfold cts; rw [List.length_map, List.length_range]; omega, fun r2 H2 s2 hr2 ff => fin r2 H2 (Kqg4.listResult (Kqg4.matchingCounts g)) (s1.trans s2) rfl ?_ (ff.old (s1))⟩
  show LI H2 r2 (((Kqg4.matchingCounts g).length : Int) :: (Kqg4.matchingCounts g).map (fun x : Nat => (x : Int)))
  have e : (Kqg4.matchingCounts g).length = (cts g).length := by rw [← cts_is, List.length_map]
  rw [cts_is, e]; exact hr2
def R_perfect_matchings : List Int → Kqg4.Request → Prop := fun l q => l = [] ∧ q = .perfectMatchings
abbrev s_perfect_matchings : Stmt := topS 71
theorem sc_perfect_matchings : FnScope ["desk", "numbers"] ["desk", "numbers"] (defScope s_perfect_matchings) := ⟨rfl, rfl, rfl, by decide +kernel, rfl, by decide +kernel, by decide +kernel⟩
theorem d_perfect_matchings (T : Nm K mg) (G : GC K C) (DK : DC0 K DC) (d_perfect_count : Cl P w K mg base CX0 3 "perfect_count" (spPerf C)) (D : Df K mg "perfect_matchings" s_perfect_matchings ["desk", "numbers"]) : Cl P w K mg base (L2.CX P w) 4 "perfect_matchings" (spDeed C DC CR true R_perfect_matchings) := by
  refine D.clX sc_perfect_matchings (fun vs H Q E h => ?_) (fun f cdv A outer s H vs Q E hr h => ?_)
  · obtain ⟨_, _, _, _, _, rfl, _⟩ := h; rfl
  have tk : Takes (cxOf (L2.CX P w) P w K mg base ["desk", "numbers"] "perfect_matchings" (defScope s_perfect_matchings) f cdv A outer s H E) (fun cls d _ H => E cls d H) := takes_of rfl rfl rfl rfl
  refine ⟨_, (pss_one (ps_ret (pe_lst (pa_cons (pe_c0 d_perfect_count hr (by decide) rfl (pa_cons (k_fld (K := K) rfl (pv 0) rfl) pa_nil)) pa_nil)))), ?_⟩
  obtain ⟨da, nv, nums, st, rq, rfl, dk, ln, rr, gok, nz, q1, q2⟩ := h
  obtain ⟨g, rfl⟩ : ∃ g, st = some g := Option.ne_none_iff_exists'.mp (nz rfl)
  have GK := gok g rfl
  obtain ⟨dx, gv, ha, gt⟩ := id dk
  obtain ⟨ga, gdx, el, rfl, h1, h2⟩ := id gt
  have n7 := GK.n7
  have n1 := GK.n1
  have e12 := GK.e12
  have sm : Sm g := ⟨by omega, by omega⟩
  have fin : ∀ r H' res, Same H H' → Kqg4.step (some g) rq = (some g, res) → LI H' r (Kqg4Neutral.fields res) → Fr H r → Q r H' := fun r H' res s hs hl hf => q1 r H' (fun b o _ hb => s _ _ hb) (by rw [hs]; exact DkAt.mono s dk) (by rw [hs]; exact hl) hf (fun z => by cases z)
  have er : ∀ c, Kqg4.step (some g) rq = (some g, .value c) → ErrK CR E H c := q2
  obtain ⟨rfl, rfl⟩ := rr
  refine ⟨_, rfl, da, DC, dx, _, _, rfl, ha, DK.cl, DK.nG, lkG, ?_⟩
  refine ⟨_, g, rfl, gt, by omega, fun H1 s1 => ⟨small5' (by show 1 ≤ 16000000; decide), fun p hp => ?_⟩⟩
  rw [MG.perf_is]
  exact fin _ _ (.value (Kqg4.perfectMatchings g)) (s1.trans (same_upd hp)) rfl (li [((Kqg4.perfectMatchings g : Nat) : Int)]) (.at (s1) hp)
def R_tell_polynomial : List Int → Kqg4.Request → Prop := fun l q => l = [] ∧ q = .matchingPolynomial
abbrev s_tell_polynomial : Stmt := topS 72
theorem sc_tell_polynomial : FnScope ["desk", "numbers"] ["desk", "numbers"] (defScope s_tell_polynomial) := ⟨rfl, rfl, rfl, by decide +kernel, rfl, by decide +kernel, by decide +kernel⟩
theorem d_tell_polynomial (T : Nm K mg) (G : GC K C) (DK : DC0 K DC) (d_told_polynomial : Cl P w K mg base CX0 1 "told_polynomial" spTold) (d_matching_polynomial : Cl P w K mg base CX0 4 "matching_polynomial" (spMp C)) (D : Df K mg "tell_polynomial" s_tell_polynomial ["desk", "numbers"]) : Cl P w K mg base (L2.CX P w) 5 "tell_polynomial" (spDeed C DC CR true R_tell_polynomial) := by
  refine D.clX sc_tell_polynomial (fun vs H Q E h => ?_) (fun f cdv A outer s H vs Q E hr h => ?_)
  · obtain ⟨_, _, _, _, _, rfl, _⟩ := h; rfl
  have tk : Takes (cxOf (L2.CX P w) P w K mg base ["desk", "numbers"] "tell_polynomial" (defScope s_tell_polynomial) f cdv A outer s H E) (fun cls d _ H => E cls d H) := takes_of rfl rfl rfl rfl
  refine ⟨_, (pss_one (ps_ret (pe_c0 d_told_polynomial hr (by decide) rfl (pa_cons (pe_c0 d_matching_polynomial hr (by decide) rfl (pa_cons (k_fld (K := K) rfl (pv 0) rfl) pa_nil)) pa_nil)))), ?_⟩
  obtain ⟨da, nv, nums, st, rq, rfl, dk, ln, rr, gok, nz, q1, q2⟩ := h
  obtain ⟨g, rfl⟩ : ∃ g, st = some g := Option.ne_none_iff_exists'.mp (nz rfl)
  have GK := gok g rfl
  obtain ⟨dx, gv, ha, gt⟩ := id dk
  obtain ⟨ga, gdx, el, rfl, h1, h2⟩ := id gt
  have n7 := GK.n7
  have n1 := GK.n1
  have e12 := GK.e12
  have sm : Sm g := ⟨by omega, by omega⟩
  have fin : ∀ r H' res, Same H H' → Kqg4.step (some g) rq = (some g, res) → LI H' r (Kqg4Neutral.fields res) → Fr H r → Q r H' := fun r H' res s hs hl hf => q1 r H' (fun b o _ hb => s _ _ hb) (by rw [hs]; exact DkAt.mono s dk) (by rw [hs]; exact hl) hf (fun z => by cases z)
  have er : ∀ c, Kqg4.step (some g) rq = (some g, .value c) → ErrK CR E H c := q2
  obtain ⟨rfl, rfl⟩ := rr
  refine ⟨_, rfl, da, DC, dx, _, _, rfl, ha, DK.cl, DK.nG, lkG, ?_⟩
  refine ⟨_, g, rfl, gt, by omega, by omega, fun r H1 s1 hr1 => ?_⟩
  refine ⟨_, _, rfl, hr1, by rw [MG.mp_len]; omega, fun r2 H2 s2 hr2 ff => fin r2 H2 (Kqg4.polynomialResult (Kqg4.matchingPolynomial g)) (s1.trans s2) rfl ?_ (ff.old (s1))⟩
  rw [MG.mpoly_is, MG.poly_fields]; exact hr2
def R_tell_squared : List Int → Kqg4.Request → Prop := fun l q => l = [] ∧ q = .squaredPolynomial
abbrev s_tell_squared : Stmt := topS 73
theorem sc_tell_squared : FnScope ["desk", "numbers"] ["desk", "numbers"] (defScope s_tell_squared) := ⟨rfl, rfl, rfl, by decide +kernel, rfl, by decide +kernel, by decide +kernel⟩
theorem d_tell_squared (T : Nm K mg) (G : GC K C) (DK : DC0 K DC) (d_told_polynomial : Cl P w K mg base CX0 1 "told_polynomial" spTold) (d_squared_polynomial : Cl P w K mg base CX0 5 "squared_polynomial" (spSq C)) (D : Df K mg "tell_squared" s_tell_squared ["desk", "numbers"]) : Cl P w K mg base (L2.CX P w) 6 "tell_squared" (spDeed C DC CR true R_tell_squared) := by
  refine D.clX sc_tell_squared (fun vs H Q E h => ?_) (fun f cdv A outer s H vs Q E hr h => ?_)
  · obtain ⟨_, _, _, _, _, rfl, _⟩ := h; rfl
  have tk : Takes (cxOf (L2.CX P w) P w K mg base ["desk", "numbers"] "tell_squared" (defScope s_tell_squared) f cdv A outer s H E) (fun cls d _ H => E cls d H) := takes_of rfl rfl rfl rfl
  refine ⟨_, (pss_one (ps_ret (pe_c0 d_told_polynomial hr (by decide) rfl (pa_cons (pe_c0 d_squared_polynomial hr (by decide) rfl (pa_cons (k_fld (K := K) rfl (pv 0) rfl) pa_nil)) pa_nil)))), ?_⟩
  obtain ⟨da, nv, nums, st, rq, rfl, dk, ln, rr, gok, nz, q1, q2⟩ := h
  obtain ⟨g, rfl⟩ : ∃ g, st = some g := Option.ne_none_iff_exists'.mp (nz rfl)
  have GK := gok g rfl
  obtain ⟨dx, gv, ha, gt⟩ := id dk
  obtain ⟨ga, gdx, el, rfl, h1, h2⟩ := id gt
  have n7 := GK.n7
  have n1 := GK.n1
  have e12 := GK.e12
  have sm : Sm g := ⟨by omega, by omega⟩
  have fin : ∀ r H' res, Same H H' → Kqg4.step (some g) rq = (some g, res) → LI H' r (Kqg4Neutral.fields res) → Fr H r → Q r H' := fun r H' res s hs hl hf => q1 r H' (fun b o _ hb => s _ _ hb) (by rw [hs]; exact DkAt.mono s dk) (by rw [hs]; exact hl) hf (fun z => by cases z)
  have er : ∀ c, Kqg4.step (some g) rq = (some g, .value c) → ErrK CR E H c := q2
  obtain ⟨rfl, rfl⟩ := rr
  refine ⟨_, rfl, da, DC, dx, _, _, rfl, ha, DK.cl, DK.nG, lkG, ?_⟩
  refine ⟨_, g, rfl, gt, by omega, by omega, fun r H1 s1 hr1 => ?_⟩
  refine ⟨_, _, rfl, hr1, by rw [MG.sqI_len]; omega, fun r2 H2 s2 hr2 ff => fin r2 H2 (Kqg4.polynomialResult (Kqg4.squaredPolynomial g)) (s1.trans s2) rfl ?_ (ff.old (s1))⟩
  rw [MG.sq_is, MG.poly_fields]; exact hr2
def R_tell_real_rooted : List Int → Kqg4.Request → Prop := fun l q => l = [] ∧ q = .isRealRooted
theorem real_pre {g : Kqg4.Graph} (GK : GOK g) : RealPre (MG.mp g.vertexCount g.edges) := by
  obtain ⟨rs, sp⟩ := GOK.sp GK.ord
  have := GK.n7
  have := GK.e12
  refine ⟨rs, 22, sp, bt_mp _ _ (by omega), ?_, by rw [MG.mp_len]; omega⟩
  rw [MG.mp_len]
  exact Nat.le_trans (Nat.mul_le_mul_left _ (Nat.pow_le_pow_right (by decide) (by omega : g.vertexCount + 1 - 2 ≤ 6))) (by decide)
abbrev s_tell_real_rooted : Stmt := topS 74
theorem sc_tell_real_rooted : FnScope ["desk", "numbers"] ["desk", "numbers"] (defScope s_tell_real_rooted) := ⟨rfl, rfl, rfl, by decide +kernel, rfl, by decide +kernel, by decide +kernel⟩
theorem d_tell_real_rooted (T : Nm K mg) (G : GC K C) (DK : DC0 K DC) (d_is_real_rooted : Cl P w K mg base CX0 5 "is_real_rooted" spReal) (d_matching_polynomial : Cl P w K mg base CX0 4 "matching_polynomial" (spMp C)) (D : Df K mg "tell_real_rooted" s_tell_real_rooted ["desk", "numbers"]) : Cl P w K mg base (L2.CX P w) 6 "tell_real_rooted" (spDeed C DC CR true R_tell_real_rooted) := by
  refine D.clX sc_tell_real_rooted (fun vs H Q E h => ?_) (fun f cdv A outer s H vs Q E hr h => ?_)
  · obtain ⟨_, _, _, _, _, rfl, _⟩ := h; rfl
  have tk : Takes (cxOf (L2.CX P w) P w K mg base ["desk", "numbers"] "tell_real_rooted" (defScope s_tell_real_rooted) f cdv A outer s H E) (fun cls d _ H => E cls d H) := takes_of rfl rfl rfl rfl
  refine ⟨_, (pss_one (ps_ret (pe_lst (pa_cons (pe_callTy call_int1 rfl T.n_int (by decide +kernel) (pa_cons (pe_c0 d_is_real_rooted hr (by decide) rfl (pa_cons (pe_c0 d_matching_polynomial hr (by decide) rfl (pa_cons (k_fld (K := K) rfl (pv 0) rfl) pa_nil)) pa_nil)) pa_nil)) pa_nil)))), ?_⟩
  obtain ⟨da, nv, nums, st, rq, rfl, dk, ln, rr, gok, nz, q1, q2⟩ := h
  obtain ⟨g, rfl⟩ : ∃ g, st = some g := Option.ne_none_iff_exists'.mp (nz rfl)
  have GK := gok g rfl
  obtain ⟨dx, gv, ha, gt⟩ := id dk
  obtain ⟨ga, gdx, el, rfl, h1, h2⟩ := id gt
  have n7 := GK.n7
  have n1 := GK.n1
  have e12 := GK.e12
  have sm : Sm g := ⟨by omega, by omega⟩
  have fin : ∀ r H' res, Same H H' → Kqg4.step (some g) rq = (some g, res) → LI H' r (Kqg4Neutral.fields res) → Fr H r → Q r H' := fun r H' res s hs hl hf => q1 r H' (fun b o _ hb => s _ _ hb) (by rw [hs]; exact DkAt.mono s dk) (by rw [hs]; exact hl) hf (fun z => by cases z)
  have er : ∀ c, Kqg4.step (some g) rq = (some g, .value c) → ErrK CR E H c := q2
  obtain ⟨rfl, rfl⟩ := rr
  refine ⟨_, rfl, da, DC, dx, _, _, rfl, ha, DK.cl, DK.nG, lkG, ?_⟩
  refine ⟨_, g, rfl, gt, by omega, by omega, fun r H1 s1 hr1 => ?_⟩
  refine ⟨_, _, rfl, hr1, real_pre GK, fun H2 s2 => .inr ⟨true, rfl, small5' (by show 1 ≤ 16000000; decide), fun p hp => ?_⟩⟩
  obtain ⟨rs, sp⟩ := GOK.sp GK.ord
  refine fin _ _ (.value (if Kqg1.isRealRooted (Kqg4.matchingPolynomial g) then 1 else 0)) ((s1.trans s2).trans (same_upd hp)) rfl ?_ (.at ((s1.trans s2)) hp)
  rw [MG.mpoly_is, MG.real_is sp]
  exact li [1]
def R_summary : List Int → Kqg4.Request → Prop := fun l q => l = [] ∧ q = .summary
abbrev s_summary : Stmt := topS 88
theorem sc_summary : FnScope ["desk", "numbers"] ["desk", "numbers"] (defScope s_summary) := ⟨rfl, rfl, rfl, by decide +kernel, rfl, by decide +kernel, by decide +kernel⟩
theorem d_summary (T : Nm K mg) (G : GC K C) (DK : DC0 K DC)  (D : Df K mg "summary" s_summary ["desk", "numbers"]) : Cl P w K mg base (L2.CX P w) 1 "summary" (spDeed C DC CR true R_summary) := by
  refine D.clX sc_summary (fun vs H Q E h => ?_) (fun f cdv A outer s H vs Q E hr h => ?_)
  · obtain ⟨_, _, _, _, _, rfl, _⟩ := h; rfl
  have tk : Takes (cxOf (L2.CX P w) P w K mg base ["desk", "numbers"] "summary" (defScope s_summary) f cdv A outer s H E) (fun cls d _ H => E cls d H) := takes_of rfl rfl rfl rfl
  refine ⟨_, (pss_one (ps_ret (pe_lst (pa_cons (k_fld (K := K) rfl (k_fld (K := K) rfl (pv 0) rfl) rfl) (pa_cons (pe_callB (k_len (K := K) rfl) rfl T.n_len (by decide +kernel) (pa_cons (k_fld (K := K) rfl (k_fld (K := K) rfl (pv 0) rfl) rfl) pa_nil)) pa_nil))))), ?_⟩
  obtain ⟨da, nv, nums, st, rq, rfl, dk, ln, rr, gok, nz, q1, q2⟩ := h
  obtain ⟨g, rfl⟩ : ∃ g, st = some g := Option.ne_none_iff_exists'.mp (nz rfl)
  have GK := gok g rfl
  obtain ⟨dx, gv, ha, gt⟩ := id dk
  obtain ⟨ga, gdx, el, rfl, h1, h2⟩ := id gt
  have n7 := GK.n7
  have n1 := GK.n1
  have e12 := GK.e12
  have sm : Sm g := ⟨by omega, by omega⟩
  have fin : ∀ r H' res, Same H H' → Kqg4.step (some g) rq = (some g, res) → LI H' r (Kqg4Neutral.fields res) → Fr H r → Q r H' := fun r H' res s hs hl hf => q1 r H' (fun b o _ hb => s _ _ hb) (by rw [hs]; exact DkAt.mono s dk) (by rw [hs]; exact hl) hf (fun z => by cases z)
  have er : ∀ c, Kqg4.step (some g) rq = (some g, .value c) → ErrK CR E H c := q2
  obtain ⟨rfl, rfl⟩ := rr
  refine ⟨_, rfl, da, DC, dx, _, _, rfl, ha, DK.cl, DK.nG, lkG, ga, C, gdx, _, _, rfl, h1, G.cl, G.nV, lkV, ?_⟩
  refine ⟨_, rfl, da, DC, dx, _, _, rfl, ha, DK.cl, DK.nG, lkG, ga, C, gdx, _, _, rfl, h1, G.cl, G.nE, lkE, ?_⟩
  obtain ⟨el', xs, e, hl, hA⟩ := h2.list
  cases e
  refine ⟨el, xs, rfl, .inl (SqL.of hl), small5' (by show 2 ≤ 16000000; decide), fun p hp => ?_⟩
  rw [hA.len, List.length_map]
  exact fin _ _ (.values g.vertexCount [(g.edges.length : Int)]) (same_upd hp) rfl (li [(g.vertexCount : Int), (g.edges.length : Int)]) (.at (Same.refl _) hp)
end
end WK

-- part W18
set_option maxRecDepth 100000
set_option maxHeartbeats 4000000
namespace WK
open PySem PySem.Spec PyProof.Rows L2
open MG (GOK)
section
variable {P : Program} {w : World} {K : PySem.W.Frag} {mg : Str → Option Value} {base : Heap} {C CR DC : Addr}
def R_evaluate : List Int → Kqg4.Request → Prop := fun l q => ∃ (a : Int) (b : Nat), l = [a, (b : Int)] ∧ q = .evaluate a b
abbrev s_evaluate : Stmt := topS 75
theorem sc_evaluate : FnScope ["desk", "numbers", "some", "top", "low", "divisor"] ["desk", "numbers"] (defScope s_evaluate) := ⟨rfl, rfl, rfl, by decide +kernel, rfl, by decide +kernel, by decide +kernel⟩
theorem d_evaluate (T : Nm K mg) (G : GC K C) (DK : DC0 K DC) (d_want_fraction : Cl P w K mg base (L2.CX P w) 4 "want_fraction" (spWf CR)) (d_matching_polynomial : Cl P w K mg base CX0 4 "matching_polynomial" (spMp C)) (d_value_at : Cl P w K mg base CX0 2 "value_at" spVal) (d_power : Cl P w K mg base CX0 1 "power" spPow) (d_common_divisor : Cl P w K mg base CX0 1 "common_divisor" spGcd) (D : Df K mg "evaluate" s_evaluate ["desk", "numbers"]) : Cl P w K mg base (L2.CX P w) 5 "evaluate" (spDeed C DC CR true R_evaluate) := by
  refine D.clX sc_evaluate (fun vs H Q E h => ?_) (fun f cdv A outer s H vs Q E hr h => ?_)
  · obtain ⟨_, _, _, _, _, rfl, _⟩ := h; rfl
  have tk : Takes (cxOf (L2.CX P w) P w K mg base ["desk", "numbers", "some", "top", "low", "divisor"] "evaluate" (defScope s_evaluate) f cdv A outer s H E) (fun cls d _ H => E cls d H) := takes_of rfl rfl rfl rfl
  refine ⟨_, (pss_cons (ps_expr (pe_cx d_want_fraction hr (by decide) rfl tk (pa_cons (pv 1) pa_nil)))
        (pss_cons (ps_set (i := 2) sc_evaluate.nd rfl (Or.inl rfl) (pe_c0 d_matching_polynomial hr (by decide) rfl (pa_cons (k_fld (K := K) rfl (pv 0) rfl) pa_nil)))
        (pss_cons (ps_par (i := 3) (j := 4) (by rfl) sc_evaluate.nd rfl rfl (by decide) rfl rfl (pa_cons (pe_c0 d_value_at hr (by decide) rfl (pa_cons (pv 2) (pa_cons (pe_ix (k_ixL (K := K) rfl) (pv 1) pe_int (fun _ _ => rfl)) (pa_cons (pe_ix (k_ixL (K := K) rfl) (pv 1) pe_int (fun _ _ => rfl)) pa_nil)))) (pa_cons (pe_c0 d_power hr (by decide) rfl (pa_cons (pe_ix (k_ixL (K := K) rfl) (pv 1) pe_int (fun _ _ => rfl)) (pa_cons (pe_op op_sub (pe_callB (k_len (K := K) rfl) rfl T.n_len (by decide +kernel) (pa_cons (pv 2) pa_nil)) pe_int) pa_nil))) pa_nil)) (by rfl))
        (pss_cons (ps_set (i := 5) sc_evaluate.nd rfl (Or.inl rfl) (pe_c0 d_common_divisor hr (by decide) rfl (pa_cons (pe_callB call_abs rfl T.n_abs (by decide +kernel) (pa_cons (pv 3) pa_nil)) (pa_cons (pv 4) pa_nil))))
        (pss_one (ps_ret (pe_lst (pa_cons pe_int (pa_cons (pe_op op_fdivW (pv 3) (pv 5)) (pa_cons (pe_op op_fdivW (pv 4) (pv 5)) pa_nil)))))))))), ?_⟩
  obtain ⟨da, nv, nums, st, rq, rfl, dk, ln, rr, gok, nz, q1, q2⟩ := h
  obtain ⟨g, rfl⟩ : ∃ g, st = some g := Option.ne_none_iff_exists'.mp (nz rfl)
  have GK := gok g rfl
  obtain ⟨dx, gv, ha, gt⟩ := id dk
  obtain ⟨ga, gdx, el, rfl, h1, h2⟩ := id gt
  have n7 := GK.n7
  have n1 := GK.n1
  have e12 := GK.e12
  have sm : Sm g := ⟨by omega, by omega⟩
  have fin : ∀ r H' res, Same H H' → Kqg4.step (some g) rq = (some g, res) → LI H' r (Kqg4Neutral.fields res) → Fr H r → Q r H' := fun r H' res s hs hl hf => q1 r H' (fun b o _ hb => s _ _ hb) (by rw [hs]; exact DkAt.mono s dk) (by rw [hs]; exact hl) hf (fun z => by cases z)
  have er : ∀ c, Kqg4.step (some g) rq = (some g, .value c) → ErrK CR E H c := q2
  obtain ⟨a, b, rfl, rfl⟩ := rr
  have st1 : Kqg4.step (some g) (.evaluate a b) = (some g, if Kqg1.isArgument a b = false then .value (-22) else .values 0 (Kqg1.fraction (Kqg1.evaluate (Kqg4.matchingPolynomial g) (Kqg1.rational a b)))) := rfl
  refine ⟨_, rfl, nv, a, b, rfl, ln, fun ia => ?_, fun ia => er (-22) (by rw [st1, if_pos ia])⟩
  rw [if_neg (by rw [ia]; decide)] at st1
  obtain ⟨na, rfl, hna⟩ := ln
  have ia2 := ia
  unfold Kqg1.isArgument at ia2
  simp only [Bool.and_eq_true, decide_eq_true_eq] at ia2
  obtain ⟨⟨i1, i2⟩, i3⟩ := ia2
  refine ⟨_, rfl, da, DC, dx, _, _, rfl, ha, DK.cl, DK.nG, lkG, ?_⟩
  refine ⟨_, g, rfl, gt, by omega, by omega, fun r H1 s1 hr1 => ?_⟩
  have ll := MG.mp_len g.vertexCount g.edges
  have bt := (bt_mp g.vertexCount g.edges (by omega)).mono (B := 64) (by decide)
  refine ⟨_, rfl, _, rfl, na, _, _, .int a, rfl, rfl, SqL.of (s1 _ _ hna), atI0, ?_⟩
  refine ⟨_, rfl, na, _, _, .int (b : Int), rfl, rfl, SqL.of (s1 _ _ hna), atI1, ?_⟩
  refine ⟨_, _, a, b, rfl, hr1, bt, by omega, by omega, by omega, by omega, by omega, fun H2 s2 => ?_⟩
  have s12 := s1.trans s2
  refine ⟨_, rfl, na, _, _, .int (b : Int), rfl, rfl, SqL.of (s12 _ _ hna), atI1, ?_⟩
  obtain ⟨pa, rfl, hpa⟩ := hr1
  refine ⟨_, rfl, pa, _, rfl, .inl (SqL.of (s2 _ _ hpa)), _, _, rfl, rfl, ?_⟩
  have en : (((MG.mp g.vertexCount g.edges).map V.int).length : Int) - 1 = ((g.vertexCount : Nat) : Int) := by rw [List.length_map, ll]; omega
  refine ⟨b, g.vertexCount, by simp only [en]; rfl, by omega, by omega, by omega, ?_⟩
  refine ⟨_, _, rfl, ?_⟩
  have ef := MG.eval_fields a i2 ll
  generalize MG.hor a (MG.scl (b : Int) (MG.mp g.vertexCount g.edges)) = tp at ef
  refine ⟨_, rfl, tp, rfl, _, rfl, tp.natAbs, b ^ g.vertexCount, ?_, ?_⟩
  · have e1 : (if tp < 0 then -tp else tp) = ((tp.natAbs : Nat) : Int) := by split <;> omega
    have e2 : (b : Int) ^ g.vertexCount = ((b ^ g.vertexCount : Nat) : Int) := by push_cast; rfl
    show [V.int (if tp < 0 then -tp else tp), V.int ((b : Int) ^ g.vertexCount)] = _
    rw [e1, e2]
  have p1 : 1 ≤ b ^ g.vertexCount := Nat.one_le_pow _ _ i2
  have gp : 0 < Nat.gcd tp.natAbs (b ^ g.vertexCount) := Nat.gcd_pos_of_pos_right _ (by omega)
  have gl : Nat.gcd tp.natAbs (b ^ g.vertexCount) ≤ b ^ g.vertexCount := Nat.gcd_le_right _ (by omega)
  have pb : b ^ g.vertexCount ≤ 1000 ^ 7 := Nat.le_trans (Nat.pow_le_pow_left i3 _) (Nat.pow_le_pow_right (by decide) n7)
  have p80 : (1000 : Nat) ^ 7 < 2 ^ 80 := by decide
  generalize Nat.gcd tp.natAbs (b ^ g.vertexCount) = gg at *
  have wd : CDivW tp (gg : Int) := wide_div (b := 80) (by omega) (by rw [Int.natAbs_natCast]; omega) (by decide) (by decide)
  refine ⟨_, rfl, _, rfl, _, _, rfl, rfl, wd, ?_⟩
  refine ⟨_, rfl, _, rfl, _, _, rfl, rfl, wide_div (b := 80) (by omega) (by rw [Int.natAbs_natCast]; omega) (by decide) (by decide), ?_⟩
  refine ⟨small5' (by show 3 ≤ 16000000; decide), fun p hp => fin _ _ _ (s12.trans (same_upd hp)) st1 ?_ (.at (s12) hp)⟩
  rw [MG.mpoly_is, ef]
  have e2 : (b : Int) ^ g.vertexCount / (gg : Int) = ((b ^ g.vertexCount / gg : Nat) : Int) := by push_cast; rfl
  have := li (H := H2) (p := p) [0, tp / (gg : Int), (b : Int) ^ g.vertexCount / (gg : Int)]
  rw [e2] at this
  rw [← e2] at this ⊢
  exact this
def R_greatest_root : List Int → Kqg4.Request → Prop := fun l q => ∃ b : Nat, l = [(b : Int)] ∧ q = .greatestRoot b
abbrev s_greatest_root : Stmt := topS 76
theorem sc_greatest_root : FnScope ["desk", "numbers"] ["desk", "numbers"] (defScope s_greatest_root) := ⟨rfl, rfl, rfl, by decide +kernel, rfl, by decide +kernel, by decide +kernel⟩
theorem d_greatest_root (T : Nm K mg) (G : GC K C) (DK : DC0 K DC) (d_want : Cl P w K mg base (L2.CX P w) 3 "want" (spWant CR)) (d_root_floor : Cl P w K mg base CX0 3 "root_floor" spFloor) (d_matching_polynomial : Cl P w K mg base CX0 4 "matching_polynomial" (spMp C)) (D : Df K mg "greatest_root" s_greatest_root ["desk", "numbers"]) : Cl P w K mg base (L2.CX P w) 5 "greatest_root" (spDeed C DC CR true R_greatest_root) := by
  refine D.clX sc_greatest_root (fun vs H Q E h => ?_) (fun f cdv A outer s H vs Q E hr h => ?_)
  · obtain ⟨_, _, _, _, _, rfl, _⟩ := h; rfl
  have tk : Takes (cxOf (L2.CX P w) P w K mg base ["desk", "numbers"] "greatest_root" (defScope s_greatest_root) f cdv A outer s H E) (fun cls d _ H => E cls d H) := takes_of rfl rfl rfl rfl
  refine ⟨_, (pss_cons (ps_expr (pe_cx d_want hr (by decide) rfl tk (pa_cons (pe_cmpR (op_le) (pe_ix (k_ixL (K := K) rfl) (pv 1) pe_int (fun _ _ => rfl)) (pe_gc rfl T.c_MOST_BITS) (nomark _)) (pa_cons (pe_gc rfl T.c_OUT_OF_RANGE) pa_nil))))
        (pss_one (ps_ret (pe_lst (pa_cons pe_int (pa_cons (pe_c0 d_root_floor hr (by decide) rfl (pa_cons (pe_c0 d_matching_polynomial hr (by decide) rfl (pa_cons (k_fld (K := K) rfl (pv 0) rfl) pa_nil)) (pa_cons (pe_op op_sub (k_fld (K := K) rfl (k_fld (K := K) rfl (pv 0) rfl) rfl) pe_int) (pa_cons (pe_ix (k_ixL (K := K) rfl) (pv 1) pe_int (fun _ _ => rfl)) pa_nil)))) pa_nil)))))), ?_⟩
  obtain ⟨da, nv, nums, st, rq, rfl, dk, ln, rr, gok, nz, q1, q2⟩ := h
  obtain ⟨g, rfl⟩ : ∃ g, st = some g := Option.ne_none_iff_exists'.mp (nz rfl)
  have GK := gok g rfl
  obtain ⟨dx, gv, ha, gt⟩ := id dk
  obtain ⟨ga, gdx, el, rfl, h1, h2⟩ := id gt
  have n7 := GK.n7
  have n1 := GK.n1
  have e12 := GK.e12
  have sm : Sm g := ⟨by omega, by omega⟩
  have fin : ∀ r H' res, Same H H' → Kqg4.step (some g) rq = (some g, res) → LI H' r (Kqg4Neutral.fields res) → Fr H r → Q r H' := fun r H' res s hs hl hf => q1 r H' (fun b o _ hb => s _ _ hb) (by rw [hs]; exact DkAt.mono s dk) (by rw [hs]; exact hl) hf (fun z => by cases z)
  have er : ∀ c, Kqg4.step (some g) rq = (some g, .value c) → ErrK CR E H c := q2
  obtain ⟨b, rfl, rfl⟩ := rr
  have st1 : Kqg4.step (some g) (.greatestRoot b) = (some g, if 20 < b then .value (-22) else .values 0 [Kqg1.rootFloor (Kqg4.matchingPolynomial g) (g.vertexCount - 1) b]) := rfl
  obtain ⟨na, rfl, hna⟩ := ln
  refine ⟨_, rfl, na, _, _, .int (b : Int), rfl, rfl, SqL.of hna, atI0, _, _, rfl, rfl, ?_⟩
  refine ⟨_, _, rfl, fun c => ?_, fun c => er (-22) (by rw [st1, if_pos (by have := of_decide_eq_false c; omega)])⟩
  have c2 := of_decide_eq_true c
  rw [if_neg (by omega)] at st1
  refine ⟨_, rfl, da, DC, dx, _, _, rfl, ha, DK.cl, DK.nG, lkG, ?_⟩
  refine ⟨_, g, rfl, gt, by omega, by omega, fun r H1 s1 hr1 => ?_⟩
  refine ⟨_, rfl, da, DC, dx, _, _, rfl, s1 _ _ ha, DK.cl, DK.nG, lkG, ga, C, gdx, _, _, rfl, s1 _ _ h1, G.cl, G.nV, lkV, _, _, rfl, rfl, ?_⟩
  refine ⟨_, rfl, na, _, _, .int (b : Int), rfl, rfl, SqL.of (s1 _ _ hna), atI0, ?_⟩
  obtain ⟨rs, sp⟩ := GOK.sp GK.ord
  have lr := sp.len
  rw [MG.len_tz, MG.mp_len] at lr
  have e1 : ((g.vertexCount : Nat) : Int) - 1 = ((g.vertexCount - 1 : Nat) : Int) := by omega
  refine ⟨r, _, g.vertexCount - 1, b, rs, by simp only [e1]; rfl, hr1, (bt_mp _ _ (by omega)).mono (by decide), sp, by omega, by omega, by rw [MG.mp_len]; omega, GOK.eight GK sp, fun z H2 s2 hz => ?_⟩
  refine ⟨small5' (by show 2 ≤ 16000000; decide), fun p hp => fin _ _ _ ((s1.trans s2).trans (same_upd hp)) st1 ?_ (.at ((s1.trans s2)) hp)⟩
  rw [MG.floor_is sp (by omega) hz, MG.mpoly_is]
  exact li [0, Kqg1.rootFloor (MG.tq (MG.mp g.vertexCount g.edges)) (g.vertexCount - 1) b]
def R_tell_root_floor : List Int → Kqg4.Request → Prop := fun l q => ∃ k b : Nat, l = [(k : Int), (b : Int)] ∧ q = .rootFloor k b
abbrev s_tell_root_floor : Stmt := topS 77
theorem sc_tell_root_floor : FnScope ["desk", "numbers", "k", "bits"] ["desk", "numbers"] (defScope s_tell_root_floor) := ⟨rfl, rfl, rfl, by decide +kernel, rfl, by decide +kernel, by decide +kernel⟩
theorem d_tell_root_floor (T : Nm K mg) (G : GC K C) (DK : DC0 K DC) (d_want : Cl P w K mg base (L2.CX P w) 3 "want" (spWant CR)) (d_root_floor : Cl P w K mg base CX0 3 "root_floor" spFloor) (d_matching_polynomial : Cl P w K mg base CX0 4 "matching_polynomial" (spMp C)) (D : Df K mg "tell_root_floor" s_tell_root_floor ["desk", "numbers"]) : Cl P w K mg base (L2.CX P w) 5 "tell_root_floor" (spDeed C DC CR true R_tell_root_floor) := by
  refine D.clX sc_tell_root_floor (fun vs H Q E h => ?_) (fun f cdv A outer s H vs Q E hr h => ?_)
  · obtain ⟨_, _, _, _, _, rfl, _⟩ := h; rfl
  have tk : Takes (cxOf (L2.CX P w) P w K mg base ["desk", "numbers", "k", "bits"] "tell_root_floor" (defScope s_tell_root_floor) f cdv A outer s H E) (fun cls d _ H => E cls d H) := takes_of rfl rfl rfl rfl
  refine ⟨_, (pss_cons (ps_asg (pv 1) (pg_unl (by rfl) (pgs_cons (pg_name (i := 2) sc_tell_root_floor.nd rfl (Or.inl rfl)) (pgs_cons (pg_name (i := 3) sc_tell_root_floor.nd rfl (Or.inl rfl)) pgs_nil))))
        (pss_cons (ps_expr (pe_cx d_want hr (by decide) rfl tk (pa_cons (pe_cmpR (op_le) (pv 3) (pe_gc rfl T.c_MOST_BITS) (nomark _)) (pa_cons (pe_gc rfl T.c_OUT_OF_RANGE) pa_nil))))
        (pss_cons (ps_expr (pe_cx d_want hr (by decide) rfl tk (pa_cons (pe_cmpR (op_lt) (pv 2) (k_fld (K := K) rfl (k_fld (K := K) rfl (pv 0) rfl) rfl) (nomark _)) (pa_cons (pe_gc rfl T.c_NOT_THERE) pa_nil))))
        (pss_one (ps_ret (pe_lst (pa_cons pe_int (pa_cons (pe_c0 d_root_floor hr (by decide) rfl (pa_cons (pe_c0 d_matching_polynomial hr (by decide) rfl (pa_cons (k_fld (K := K) rfl (pv 0) rfl) pa_nil)) (pa_cons (pv 2) (pa_cons (pv 3) pa_nil)))) pa_nil)))))))), ?_⟩
  obtain ⟨da, nv, nums, st, rq, rfl, dk, ln, rr, gok, nz, q1, q2⟩ := h
  obtain ⟨g, rfl⟩ : ∃ g, st = some g := Option.ne_none_iff_exists'.mp (nz rfl)
  have GK := gok g rfl
  obtain ⟨dx, gv, ha, gt⟩ := id dk
  obtain ⟨ga, gdx, el, rfl, h1, h2⟩ := id gt
  have n7 := GK.n7
  have n1 := GK.n1
  have e12 := GK.e12
  have sm : Sm g := ⟨by omega, by omega⟩
  have fin : ∀ r H' res, Same H H' → Kqg4.step (some g) rq = (some g, res) → LI H' r (Kqg4Neutral.fields res) → Fr H r → Q r H' := fun r H' res s hs hl hf => q1 r H' (fun b o _ hb => s _ _ hb) (by rw [hs]; exact DkAt.mono s dk) (by rw [hs]; exact hl) hf (fun z => by cases z)
  have er : ∀ c, Kqg4.step (some g) rq = (some g, .value c) → ErrK CR E H c := q2
  obtain ⟨k, b, rfl, rfl⟩ := rr
  have st1 : Kqg4.step (some g) (.rootFloor k b) = (some g, if 20 < b then .value (-22) else if g.vertexCount ≤ k then .value (-2) else .values 0 [Kqg1.rootFloor (Kqg4.matchingPolynomial g) k b]) := rfl
  obtain ⟨na, rfl, hna⟩ := ln
  refine ⟨_, rfl, na, _, rfl, SqL.of hna, rfl, _, _, rfl, _, _, rfl, rfl, ?_⟩
  refine ⟨_, rfl, _, _, rfl, rfl, ?_⟩
  refine ⟨_, _, rfl, fun c => ?_, fun c => er (-22) (by rw [st1, if_pos (by have := of_decide_eq_false c; omega)])⟩
  have c2 := of_decide_eq_true c
  rw [if_neg (by omega)] at st1
  refine ⟨_, rfl, _, rfl, da, DC, dx, _, _, rfl, ha, DK.cl, DK.nG, lkG, ga, C, gdx, _, _, rfl, h1, G.cl, G.nV, lkV, _, _, rfl, rfl, ?_⟩
  refine ⟨_, _, rfl, fun d => ?_, fun d => er (-2) (by rw [st1, if_pos (by have := of_decide_eq_false d; omega)])⟩
  have d2 := of_decide_eq_true d
  rw [if_neg (by omega)] at st1
  refine ⟨_, rfl, da, DC, dx, _, _, rfl, ha, DK.cl, DK.nG, lkG, ?_⟩
  refine ⟨_, g, rfl, gt, by omega, by omega, fun r H1 s1 hr1 => ?_⟩
  obtain ⟨rs, sp⟩ := GOK.sp GK.ord
  have lr := sp.len
  rw [MG.len_tz, MG.mp_len] at lr
  refine ⟨_, rfl, _, rfl, r, _, k, b, rs, rfl, hr1, (bt_mp _ _ (by omega)).mono (by decide), sp, by omega, by omega, by rw [MG.mp_len]; omega, GOK.eight GK sp, fun z H2 s2 hz => ?_⟩
  refine ⟨small5' (by show 2 ≤ 16000000; decide), fun p hp => fin _ _ _ ((s1.trans s2).trans (same_upd hp)) st1 ?_ (.at ((s1.trans s2)) hp)⟩
  rw [MG.floor_is sp (by omega) hz, MG.mpoly_is]
  exact li [0, Kqg1.rootFloor (MG.tq (MG.mp g.vertexCount g.edges)) k b]
def R_check_root_bound : List Int → Kqg4.Request → Prop := fun l q => l = [] ∧ q = .checkRootBound
abbrev s_check_root_bound : Stmt := topS 78
theorem sc_check_root_bound : FnScope ["desk", "numbers", "degree", "bound"] ["desk", "numbers"] (defScope s_check_root_bound) := ⟨rfl, rfl, rfl, by decide +kernel, rfl, by decide +kernel, by decide +kernel⟩
theorem d_check_root_bound (T : Nm K mg) (G : GC K C) (DK : DC0 K DC) (m_greatest_degree : Mt P w K mg base 2 C "greatest_degree" (spGreat C)) (d_want : Cl P w K mg base (L2.CX P w) 3 "want" (spWant CR)) (d_roots_from : Cl P w K mg base CX0 2 "roots_from" spRf) (d_squared_polynomial : Cl P w K mg base CX0 5 "squared_polynomial" (spSq C)) (D : Df K mg "check_root_bound" s_check_root_bound ["desk", "numbers"]) : Cl P w K mg base (L2.CX P w) 6 "check_root_bound" (spDeed C DC CR true R_check_root_bound) := by
  refine D.clX sc_check_root_bound (fun vs H Q E h => ?_) (fun f cdv A outer s H vs Q E hr h => ?_)
  · obtain ⟨_, _, _, _, _, rfl, _⟩ := h; rfl
  have tk : Takes (cxOf (L2.CX P w) P w K mg base ["desk", "numbers", "degree", "bound"] "check_root_bound" (defScope s_check_root_bound) f cdv A outer s H E) (fun cls d _ H => E cls d H) := takes_of rfl rfl rfl rfl
  refine ⟨_, (pss_cons (ps_set (i := 2) sc_check_root_bound.nd rfl (Or.inl rfl) (pe_mz m_greatest_degree hr (by decide) (k_fld (K := K) rfl (pv 0) rfl)))
        (pss_cons (ps_expr (pe_cx d_want hr (by decide) rfl tk (pa_cons (pe_cmpR (op_ge) (pv 2) pe_int (nomark _)) (pa_cons (pe_gc rfl T.c_NO_EDGE) pa_nil))))
        (pss_cons (ps_set (i := 3) sc_check_root_bound.nd rfl (Or.inl rfl) (pe_op op_mul pe_int (pe_op op_sub (pv 2) pe_int)))
        (pss_one (ps_ret (pe_lst (pa_cons (pe_callTy call_int1 rfl T.n_int (by decide +kernel) (pa_cons (pe_cmpR (op_eq) (pe_c0 d_roots_from hr (by decide) rfl (pa_cons (pe_c0 d_squared_polynomial hr (by decide) rfl (pa_cons (k_fld (K := K) rfl (pv 0) rfl) pa_nil)) (pa_cons (pv 3) pa_nil))) pe_int (nomark _)) pa_nil)) (pa_cons (pv 3) pa_nil)))))))), ?_⟩
  obtain ⟨da, nv, nums, st, rq, rfl, dk, ln, rr, gok, nz, q1, q2⟩ := h
  obtain ⟨g, rfl⟩ : ∃ g, st = some g := Option.ne_none_iff_exists'.mp (nz rfl)
  have GK := gok g rfl
  obtain ⟨dx, gv, ha, gt⟩ := id dk
  obtain ⟨ga, gdx, el, rfl, h1, h2⟩ := id gt
  have n7 := GK.n7
  have n1 := GK.n1
  have e12 := GK.e12
  have sm : Sm g := ⟨by omega, by omega⟩
  have fin : ∀ r H' res, Same H H' → Kqg4.step (some g) rq = (some g, res) → LI H' r (Kqg4Neutral.fields res) → Fr H r → Q r H' := fun r H' res s hs hl hf => q1 r H' (fun b o _ hb => s _ _ hb) (by rw [hs]; exact DkAt.mono s dk) (by rw [hs]; exact hl) hf (fun z => by cases z)
  have er : ∀ c, Kqg4.step (some g) rq = (some g, .value c) → ErrK CR E H c := q2
  obtain ⟨rfl, rfl⟩ := rr
  have st1 : Kqg4.step (some g) .checkRootBound = (some g, if Kqg4.maxDegree g < 2 then .value (-33) else .values (if Kqg1.countRoots (Kqg4.squaredPolynomial g) (.at ((4 * (Kqg4.maxDegree g - 1) : Nat) : Rat)) .plusInfinity = 0 ∧ Kqg1.multiplicity (Kqg4.squaredPolynomial g) ((4 * (Kqg4.maxDegree g - 1) : Nat) : Rat) = 0 then 1 else 0) [((4 * (Kqg4.maxDegree g - 1) : Nat) : Int)]) := rfl
  refine ⟨_, rfl, da, DC, dx, _, _, rfl, ha, DK.cl, DK.nG, lkG, ga, gdx, _, rfl, h1, lkM (by decide +kernel) (by decide +kernel), ?_⟩
  refine ⟨_, g, rfl, gt, sm, by omega, fun H1 s1 => ?_⟩
  rw [mxd_is GK.ord]
  have md : Kqg4.maxDegree g ≤ 1000 := by
    rw [← mxd_is GK.ord]
    rcases foldl_max_in ((List.range g.vertexCount).map (dg g)) 0 with z | z
    · show ((List.range g.vertexCount).map (dg g)).foldl max 0 ≤ 1000
      rw [z]; omega
    · obtain ⟨v, _, hv⟩ := List.mem_map.mp z
      show ((List.range g.vertexCount).map (dg g)).foldl max 0 ≤ 1000
      rw [← hv]
      exact Nat.le_trans (List.length_filter_le _ _) sm.e
  generalize Kqg4.maxDegree g = m at *
  refine ⟨_, rfl, _, _, rfl, rfl, _, _, rfl, fun c => ?_, fun c => (er (-33) (by rw [st1, if_pos (by have := of_decide_eq_false c; omega)])).mono s1⟩
  have c2 := of_decide_eq_true c
  rw [if_neg (by omega)] at st1
  refine ⟨_, rfl, _, _, rfl, rfl, _, _, rfl, rfl, .inl ⟨by decide, by decide⟩, ?_⟩
  refine ⟨_, rfl, da, DC, dx, _, _, rfl, s1 _ _ ha, DK.cl, DK.nG, lkG, ?_⟩
  refine ⟨_, g, rfl, gt.mono s1, by omega, by omega, fun r H2 s2 hr2 => ?_⟩
  have eb : (4 : Int) * (((m : Nat) : Int) - 1) = ((4 * (m - 1) : Nat) : Int) := by omega
  obtain ⟨rs, sp0⟩ := GOK.sp GK.ord
  obtain ⟨ss, sp, _⟩ := MG.sq_sp sp0
  have lr := sp.len
  rw [MG.len_tz] at lr
  have top := MG.shf_top sp ((4 * (m - 1) : Nat) : Int) (n := (MG.sqI g.vertexCount g.edges).length - 1) (by omega)
  have bi := MG.bound_is sp (4 * (m - 1))
  refine ⟨_, rfl, r, _, ((4 * (m - 1) : Nat) : Int), by simp only [eb]; rfl, hr2, by omega, by omega, by omega, by rw [MG.sqI_len]; omega, ⟨_, top.2, by rw [top.1]; decide⟩, fun H3 s3 => ?_⟩
  generalize MG.chg (MG.nz (MG.shf ((4 * (m - 1) : Nat) : Int) ((MG.sqI g.vertexCount g.edges).length - 1) (MG.sqI g.vertexCount g.edges))) + MG.zah (MG.shf ((4 * (m - 1) : Nat) : Int) ((MG.sqI g.vertexCount g.edges).length - 1) (MG.sqI g.vertexCount g.edges)) = N at *
  refine ⟨rfl, .inr ⟨_, rfl, _, rfl, small5' (by show 2 ≤ 16000000; decide), fun p hp => fin _ _ _ (((s1.trans s2).trans s3).trans (same_upd hp)) st1 ?_ (.at (((s1.trans s2).trans s3)) hp)⟩⟩
  rw [MG.sq_is]
  have e3 : (if (decide (V.int (N : Int) = V.int 0)) = true then (1 : Int) else 0) = (if Kqg1.countRoots (MG.tq (MG.sqI g.vertexCount g.edges)) (.at ((4 * (m - 1) : Nat) : Rat)) .plusInfinity = 0 ∧ Kqg1.multiplicity (MG.tq (MG.sqI g.vertexCount g.edges)) ((4 * (m - 1) : Nat) : Rat) = 0 then 1 else 0) := by
    rw [dec_int]
    by_cases z : N = 0
    · rw [if_pos (by simp [z]), if_pos (bi.mpr z)]
    · rw [if_neg (by simp [z]), if_neg (fun y => z (bi.mp y))]
  have := li (H := H3) (p := p) [(if (decide (V.int (N : Int) = V.int 0)) = true then (1 : Int) else 0), 4 * (((m : Nat) : Int) - 1)]
  rw [e3, eb] at this
  rw [← e3, ← eb] at this ⊢
  exact this
end
end WK

-- part W19
set_option maxRecDepth 100000
set_option maxHeartbeats 4000000
namespace WK
open PySem PySem.Spec PyProof.Rows L2
open MG (GOK)
theorem out_eq (g : Kqg4.Graph) (v : Nat) : outV g v = (Kqg4.withoutVertex g v).edges := by
  rw [MG.wv_edges]
  unfold outV MG.offv
  have : (fun e : Ed => !tch v e) = fun f : Ed => f.1 != v && f.2 != v := by
    funext e
    unfold tch
    rw [Bool.not_or]
    have (x y : Nat) : (!decide (x = y)) = (x != y) := by by_cases h : x = y <;> simp [h]
    rw [this, this]
  rw [this]; rfl
theorem perm_mp {E' E : List Ed} (h : SortOf E' E) (n : Nat) : MG.mp n E' = MG.mp n E := MG.mp_congr n fun k => MG.cnt_perm h.perm k
theorem comp_mem (g : Kqg4.Graph) : compE g = (Kqg4.complement g).edges := MG.compl_eq g
theorem all_one {n v : Nat} : ([v].all fun x => decide (x < n)) = decide (v < n) := by simp
theorem odd_is : ∀ m : Nat, m ≤ 7 → oddP m = ((Kqg4.perfectMatchingsOfComplete m : Nat) : Int) := by
  have : ∀ m : Nat, m < 8 → oddP m = ((Kqg4.perfectMatchingsOfComplete m : Nat) : Int) := by decide +kernel
  intro m h; exact this m (by omega)
section
variable {P : Program} {w : World} {K : PySem.W.Frag} {mg : Str → Option Value} {base : Heap} {C CR DC : Addr}
def R_polynomial_without_vertex : List Int → Kqg4.Request → Prop := fun l q => ∃ v : Nat, l = [(v : Int)] ∧ q = .polynomialWithoutVertex v
abbrev s_polynomial_without_vertex : Stmt := topS 79
theorem sc_polynomial_without_vertex : FnScope ["desk", "numbers"] ["desk", "numbers"] (defScope s_polynomial_without_vertex) := ⟨rfl, rfl, rfl, by decide +kernel, rfl, by decide +kernel, by decide +kernel⟩
theorem d_polynomial_without_vertex (T : Nm K mg) (G : GC K C) (DK : DC0 K DC) (d_want_vertices : Cl P w K mg base (L2.CX P w) 4 "want_vertices" (spWv C CR)) (d_told_polynomial : Cl P w K mg base CX0 1 "told_polynomial" spTold) (d_matching_polynomial : Cl P w K mg base CX0 4 "matching_polynomial" (spMp C)) (m_without_vertex : Mt P w K mg base 3 C "without_vertex" (spWithoutV C)) (D : Df K mg "polynomial_without_vertex" s_polynomial_without_vertex ["desk", "numbers"]) : Cl P w K mg base (L2.CX P w) 5 "polynomial_without_vertex" (spDeed C DC CR true R_polynomial_without_vertex) := by
  refine D.clX sc_polynomial_without_vertex (fun vs H Q E h => ?_) (fun f cdv A outer s H vs Q E hr h => ?_)
  · obtain ⟨_, _, _, _, _, rfl, _⟩ := h; rfl
  have tk : Takes (cxOf (L2.CX P w) P w K mg base ["desk", "numbers"] "polynomial_without_vertex" (defScope s_polynomial_without_vertex) f cdv A outer s H E) (fun cls d _ H => E cls d H) := takes_of rfl rfl rfl rfl
  refine ⟨_, (pss_cons (ps_expr (pe_cx d_want_vertices hr (by decide) rfl tk (pa_cons (k_fld (K := K) rfl (pv 0) rfl) (pa_cons (pv 1) pa_nil))))
        (pss_one (ps_ret (pe_c0 d_told_polynomial hr (by decide) rfl (pa_cons (pe_c0 d_matching_polynomial hr (by decide) rfl (pa_cons (pe_m1 m_without_vertex hr (by decide) (k_fld (K := K) rfl (pv 0) rfl) (pa_cons (pe_ix (k_ixL (K := K) rfl) (pv 1) pe_int (fun _ _ => rfl)) pa_nil)) pa_nil)) pa_nil))))), ?_⟩
  obtain ⟨da, nv, nums, st, rq, rfl, dk, ln, rr, gok, nz, q1, q2⟩ := h
  obtain ⟨g, rfl⟩ : ∃ g, st = some g := Option.ne_none_iff_exists'.mp (nz rfl)
  have GK := gok g rfl
  obtain ⟨dx, gv, ha, gt⟩ := id dk
  obtain ⟨ga, gdx, el, rfl, h1, h2⟩ := id gt
  have n7 := GK.n7
  have n1 := GK.n1
  have e12 := GK.e12
  have sm : Sm g := ⟨by omega, by omega⟩
  have fin : ∀ r H' res, Same H H' → Kqg4.step (some g) rq = (some g, res) → LI H' r (Kqg4Neutral.fields res) → Fr H r → Q r H' := fun r H' res s hs hl hf => q1 r H' (fun b o _ hb => s _ _ hb) (by rw [hs]; exact DkAt.mono s dk) (by rw [hs]; exact hl) hf (fun z => by cases z)
  have er : ∀ c, Kqg4.step (some g) rq = (some g, .value c) → ErrK CR E H c := q2
  obtain ⟨v, rfl, rfl⟩ := rr
  have st1 : Kqg4.step (some g) (.polynomialWithoutVertex v) = (some g, if g.vertexCount ≤ v then .value (-2) else Kqg4.polynomialResult (Kqg4.matchingPolynomial (Kqg4.withoutVertex g v))) := rfl
  refine ⟨_, rfl, da, DC, dx, _, _, rfl, ha, DK.cl, DK.nG, lkG, ?_⟩
  refine ⟨_, rfl, _, nv, g, [v], rfl, gt, ln, (by show 1 ≤ 1000; decide), fun c H1 s1 => ?_, fun c => er (-2) (by rw [st1, if_pos (by rw [all_one] at c; have := of_decide_eq_false c; omega)])⟩
  rw [all_one] at c
  have c2 := of_decide_eq_true c
  rw [if_neg (by omega)] at st1
  obtain ⟨na, rfl, hna⟩ := ln
  refine ⟨_, rfl, da, DC, dx, _, _, rfl, s1 _ _ ha, DK.cl, DK.nG, lkG, ga, gdx, _, rfl, s1 _ _ h1, lkM (by decide +kernel) (by decide +kernel), ?_⟩
  refine ⟨_, rfl, na, _, _, .int (v : Int), rfl, rfl, SqL.of (s1 _ _ hna), atI0, ?_⟩
  refine ⟨_, g, v, rfl, gt.mono s1, sm, by omega, fun E' r H2 so s2 gt2 => ?_⟩
  have le : E'.length ≤ 21 := by
    rw [so.perm.length_eq, outV, List.length_map]
    exact Nat.le_trans (List.length_filter_le _ _) (by omega)
  refine ⟨_, _, rfl, gt2, le, by show g.vertexCount - 1 ≤ 1000; omega, fun r2 H3 s3 hr3 => ?_⟩
  refine ⟨_, _, rfl, hr3, by rw [MG.mp_len]; show g.vertexCount - 1 + 1 ≤ 1000; omega, fun r4 H4 s4 hr4 ff => fin r4 H4 _ (((s1.trans s2).trans s3).trans s4) st1 ?_ (ff.old (((s1.trans s2).trans s3)))⟩
  rw [MG.mpoly_is, MG.poly_fields]
  rw [perm_mp so, out_eq] at hr4
  exact hr4
def R_polynomial_without_edge : List Int → Kqg4.Request → Prop := fun l q => ∃ a b : Nat, l = [(a : Int), (b : Int)] ∧ q = .polynomialWithoutEdge a b
theorem has_t {g : Kqg4.Graph} {a b : Nat} : Kqg4.hasEdge g a b = decide ((min a b, max a b) ∈ g.edges) := by
  unfold Kqg4.hasEdge
  by_cases c : (min a b, max a b) ∈ g.edges
  · rw [decide_eq_true c]; exact List.contains_iff_mem.mpr c
  · rw [decide_eq_false c]
    cases d : g.edges.contains (min a b, max a b) with
    | false => rfl
    | true => exact absurd (List.contains_iff_mem.mp d) c
theorem we_eq (g : Kqg4.Graph) (a b : Nat) : (g.edges.filter fun f => !decide (f = (min a b, max a b))) = (Kqg4.withoutEdge g (min a b) (max a b)).edges := by
  show _ = g.edges.filter _
  congr 1
  funext f
  by_cases c : f = (min a b, max a b)
  · rw [decide_eq_true c, c]; simp
  · rw [decide_eq_false c]; exact (bne_iff_ne.mpr c).symm
abbrev s_polynomial_without_edge : Stmt := topS 80
theorem sc_polynomial_without_edge : FnScope ["desk", "numbers", "edge"] ["desk", "numbers"] (defScope s_polynomial_without_edge) := ⟨rfl, rfl, rfl, by decide +kernel, rfl, by decide +kernel, by decide +kernel⟩
theorem d_polynomial_without_edge (T : Nm K mg) (G : GC K C) (DK : DC0 K DC) (d_want_edge : Cl P w K mg base (L2.CX P w) 5 "want_edge" (spWe C CR)) (d_told_polynomial : Cl P w K mg base CX0 1 "told_polynomial" spTold) (d_matching_polynomial : Cl P w K mg base CX0 4 "matching_polynomial" (spMp C)) (m_without_edge : Mt P w K mg base 3 C "without_edge" (spWithoutE C)) (D : Df K mg "polynomial_without_edge" s_polynomial_without_edge ["desk", "numbers"]) : Cl P w K mg base (L2.CX P w) 6 "polynomial_without_edge" (spDeed C DC CR true R_polynomial_without_edge) := by
  refine D.clX sc_polynomial_without_edge (fun vs H Q E h => ?_) (fun f cdv A outer s H vs Q E hr h => ?_)
  · obtain ⟨_, _, _, _, _, rfl, _⟩ := h; rfl
  have tk : Takes (cxOf (L2.CX P w) P w K mg base ["desk", "numbers", "edge"] "polynomial_without_edge" (defScope s_polynomial_without_edge) f cdv A outer s H E) (fun cls d _ H => E cls d H) := takes_of rfl rfl rfl rfl
  refine ⟨_, (pss_cons (ps_set (i := 2) sc_polynomial_without_edge.nd rfl (Or.inl rfl) (pe_cx d_want_edge hr (by decide) rfl tk (pa_cons (k_fld (K := K) rfl (pv 0) rfl) (pa_cons (pv 1) pa_nil))))
        (pss_one (ps_ret (pe_c0 d_told_polynomial hr (by decide) rfl (pa_cons (pe_c0 d_matching_polynomial hr (by decide) rfl (pa_cons (pe_m1 m_without_edge hr (by decide) (k_fld (K := K) rfl (pv 0) rfl) (pa_cons (pv 2) pa_nil)) pa_nil)) pa_nil))))), ?_⟩
  obtain ⟨da, nv, nums, st, rq, rfl, dk, ln, rr, gok, nz, q1, q2⟩ := h
  obtain ⟨g, rfl⟩ : ∃ g, st = some g := Option.ne_none_iff_exists'.mp (nz rfl)
  have GK := gok g rfl
  obtain ⟨dx, gv, ha, gt⟩ := id dk
  obtain ⟨ga, gdx, el, rfl, h1, h2⟩ := id gt
  have n7 := GK.n7
  have n1 := GK.n1
  have e12 := GK.e12
  have sm : Sm g := ⟨by omega, by omega⟩
  have fin : ∀ r H' res, Same H H' → Kqg4.step (some g) rq = (some g, res) → LI H' r (Kqg4Neutral.fields res) → Fr H r → Q r H' := fun r H' res s hs hl hf => q1 r H' (fun b o _ hb => s _ _ hb) (by rw [hs]; exact DkAt.mono s dk) (by rw [hs]; exact hl) hf (fun z => by cases z)
  have er : ∀ c, Kqg4.step (some g) rq = (some g, .value c) → ErrK CR E H c := q2
  obtain ⟨a, b, rfl, rfl⟩ := rr
  have st1 : Kqg4.step (some g) (.polynomialWithoutEdge a b) = (some g, if g.vertexCount ≤ a ∨ g.vertexCount ≤ b then .value (-2) else if Kqg4.hasEdge g a b = false then .value (-33) else Kqg4.polynomialResult (Kqg4.matchingPolynomial (Kqg4.withoutEdge g (min a b) (max a b)))) := rfl
  refine ⟨_, rfl, da, DC, dx, _, _, rfl, ha, DK.cl, DK.nG, lkG, ?_⟩
  refine ⟨_, rfl, _, nv, g, a, b, rfl, gt, ln, fun c => er (-2) (by rw [st1, if_pos c]), fun c1 c2 c3 => er (-33) (by rw [st1, if_neg (by omega), if_pos (by rw [has_t]; exact decide_eq_false c3)]), fun c1 c2 c3 r H1 s1 hr1 => ?_⟩
  rw [if_neg (by omega), if_neg (by rw [has_t, decide_eq_true c3]; decide)] at st1
  refine ⟨_, rfl, da, DC, dx, _, _, rfl, s1 _ _ ha, DK.cl, DK.nG, lkG, ga, gdx, _, rfl, s1 _ _ h1, lkM (by decide +kernel) (by decide +kernel), ?_⟩
  refine ⟨_, rfl, _, _, g, _, rfl, gt.mono s1, hr1, sm, fun E' r2 H2 so s2 gt2 => ?_⟩
  have le : E'.length ≤ 21 := by
    rw [so.perm.length_eq]
    exact Nat.le_trans (List.length_filter_le _ _) (by omega)
  refine ⟨_, _, rfl, gt2, le, by show g.vertexCount ≤ 1000; omega, fun r2 H3 s3 hr3 => ?_⟩
  refine ⟨_, _, rfl, hr3, by rw [MG.mp_len]; show g.vertexCount + 1 ≤ 1000; omega, fun r4 H4 s4 hr4 ff => fin r4 H4 _ (((s1.trans s2).trans s3).trans s4) st1 ?_ (ff.old (((s1.trans s2).trans s3)))⟩
  rw [MG.mpoly_is, MG.poly_fields]
  rw [perm_mp so, we_eq] at hr4
  exact hr4
def R_interlaces_without_vertex : List Int → Kqg4.Request → Prop := fun l q => ∃ v : Nat, l = [(v : Int)] ∧ q = .interlacesWithoutVertex v
theorem inter_pre {g : Kqg4.Graph} (GK : GOK g) {v : Nat} (hv : v < g.vertexCount) : RealPre (MG.mp (g.vertexCount - 1) (Kqg4.withoutVertex g v).edges) ∧ FullPre (MG.mp g.vertexCount g.edges) (MG.mp (g.vertexCount - 1) (Kqg4.withoutVertex g v).edges) := by
  obtain ⟨n, hn⟩ : ∃ n, g.vertexCount = n + 1 := ⟨g.vertexCount - 1, by omega⟩
  have n7 := GK.n7
  have e12 := GK.e12
  have e1 : g.vertexCount - 1 = n := by omega
  have vd := GOK.valid GK.ord
  have lo : (MG.offv g.edges v).length ≤ 21 := Nat.le_trans (List.length_filter_le _ _) (by omega)
  obtain ⟨rs, qs, _, h2, _⟩ := MG.graph_il (n := n) (v := v) vd (by rw [List.length_range, hn]) (List.mem_range.mpr hv)
  have cd := MG.graph_cd (n := n) (v := v) vd (by rw [List.length_range, hn]) (List.mem_range.mpr hv)
  rw [e1, MG.wv_mp, hn]
  refine ⟨⟨qs, 22, h2, bt_mp _ _ lo, ?_, by rw [MG.mp_len]; omega⟩, .inr ⟨n, 22, cd, by decide, bt_mp _ _ (by omega), bt_mp _ _ lo, ?_, by omega⟩⟩
  · rw [MG.mp_len]
    exact Nat.le_trans (Nat.mul_le_mul_left _ (Nat.pow_le_pow_right (by decide) (by omega : n + 1 - 2 ≤ 6))) (by decide)
  · exact Nat.le_trans (Nat.mul_le_mul_left _ (Nat.pow_le_pow_right (by decide) (by omega : n ≤ 6))) (by decide)
abbrev s_interlaces_without_vertex : Stmt := topS 81
theorem sc_interlaces_without_vertex : FnScope ["desk", "numbers", "other"] ["desk", "numbers"] (defScope s_interlaces_without_vertex) := ⟨rfl, rfl, rfl, by decide +kernel, rfl, by decide +kernel, by decide +kernel⟩
theorem d_interlaces_without_vertex (T : Nm K mg) (G : GC K C) (DK : DC0 K DC) (d_want_vertices : Cl P w K mg base (L2.CX P w) 4 "want_vertices" (spWv C CR)) (d_matching_polynomial : Cl P w K mg base CX0 4 "matching_polynomial" (spMp C)) (m_without_vertex : Mt P w K mg base 3 C "without_vertex" (spWithoutV C)) (d_interlaces : Cl P w K mg base CX0 6 "interlaces" spInter) (D : Df K mg "interlaces_without_vertex" s_interlaces_without_vertex ["desk", "numbers"]) : Cl P w K mg base (L2.CX P w) 7 "interlaces_without_vertex" (spDeed C DC CR true R_interlaces_without_vertex) := by
  refine D.clX sc_interlaces_without_vertex (fun vs H Q E h => ?_) (fun f cdv A outer s H vs Q E hr h => ?_)
  · obtain ⟨_, _, _, _, _, rfl, _⟩ := h; rfl
  have tk : Takes (cxOf (L2.CX P w) P w K mg base ["desk", "numbers", "other"] "interlaces_without_vertex" (defScope s_interlaces_without_vertex) f cdv A outer s H E) (fun cls d _ H => E cls d H) := takes_of rfl rfl rfl rfl
  refine ⟨_, (pss_cons (ps_expr (pe_cx d_want_vertices hr (by decide) rfl tk (pa_cons (k_fld (K := K) rfl (pv 0) rfl) (pa_cons (pv 1) pa_nil))))
        (pss_cons (ps_set (i := 2) sc_interlaces_without_vertex.nd rfl (Or.inl rfl) (pe_c0 d_matching_polynomial hr (by decide) rfl (pa_cons (pe_m1 m_without_vertex hr (by decide) (k_fld (K := K) rfl (pv 0) rfl) (pa_cons (pe_ix (k_ixL (K := K) rfl) (pv 1) pe_int (fun _ _ => rfl)) pa_nil)) pa_nil)))
        (pss_one (ps_ret (pe_lst (pa_cons (pe_callTy call_int1 rfl T.n_int (by decide +kernel) (pa_cons (pe_c0 d_interlaces hr (by decide) rfl (pa_cons (pv 2) (pa_cons (pe_c0 d_matching_polynomial hr (by decide) rfl (pa_cons (k_fld (K := K) rfl (pv 0) rfl) pa_nil)) pa_nil))) pa_nil)) pa_nil)))))), ?_⟩
  obtain ⟨da, nv, nums, st, rq, rfl, dk, ln, rr, gok, nz, q1, q2⟩ := h
  obtain ⟨g, rfl⟩ : ∃ g, st = some g := Option.ne_none_iff_exists'.mp (nz rfl)
  have GK := gok g rfl
  obtain ⟨dx, gv, ha, gt⟩ := id dk
  obtain ⟨ga, gdx, el, rfl, h1, h2⟩ := id gt
  have n7 := GK.n7
  have n1 := GK.n1
  have e12 := GK.e12
  have sm : Sm g := ⟨by omega, by omega⟩
  have fin : ∀ r H' res, Same H H' → Kqg4.step (some g) rq = (some g, res) → LI H' r (Kqg4Neutral.fields res) → Fr H r → Q r H' := fun r H' res s hs hl hf => q1 r H' (fun b o _ hb => s _ _ hb) (by rw [hs]; exact DkAt.mono s dk) (by rw [hs]; exact hl) hf (fun z => by cases z)
  have er : ∀ c, Kqg4.step (some g) rq = (some g, .value c) → ErrK CR E H c := q2
  obtain ⟨v, rfl, rfl⟩ := rr
  have st1 : Kqg4.step (some g) (.interlacesWithoutVertex v) = (some g, if g.vertexCount ≤ v then .value (-2) else .value (if Kqg2.interlaces (Kqg4.matchingPolynomial g) (Kqg4.matchingPolynomial (Kqg4.withoutVertex g v)) then 1 else 0)) := rfl
  refine ⟨_, rfl, da, DC, dx, _, _, rfl, ha, DK.cl, DK.nG, lkG, ?_⟩
  refine ⟨_, rfl, _, nv, g, [v], rfl, gt, ln, (by show 1 ≤ 1000; decide), fun c H1 s1 => ?_, fun c => er (-2) (by rw [st1, if_pos (by rw [all_one] at c; have := of_decide_eq_false c; omega)])⟩
  rw [all_one] at c
  have c2 := of_decide_eq_true c
  rw [if_neg (by omega), MG.inter_is GK c2] at st1
  obtain ⟨na, rfl, hna⟩ := ln
  refine ⟨_, rfl, da, DC, dx, _, _, rfl, s1 _ _ ha, DK.cl, DK.nG, lkG, ga, gdx, _, rfl, s1 _ _ h1, lkM (by decide +kernel) (by decide +kernel), ?_⟩
  refine ⟨_, rfl, na, _, _, .int (v : Int), rfl, rfl, SqL.of (s1 _ _ hna), atI0, ?_⟩
  refine ⟨_, g, v, rfl, gt.mono s1, sm, by omega, fun E' r H2 so s2 gt2 => ?_⟩
  have le : E'.length ≤ 21 := by
    rw [so.perm.length_eq, outV, List.length_map]
    exact Nat.le_trans (List.length_filter_le _ _) (by omega)
  refine ⟨_, _, rfl, gt2, le, by show g.vertexCount - 1 ≤ 1000; omega, fun r2 H3 s3 hr3 => ?_⟩
  have s13 := (s1.trans s2).trans s3
  refine ⟨_, rfl, _, rfl, da, DC, dx, _, _, rfl, s13 _ _ ha, DK.cl, DK.nG, lkG, ?_⟩
  refine ⟨_, g, rfl, gt.mono s13, by omega, by omega, fun r5 H5 s5 hr5 => ?_⟩
  rw [perm_mp so, out_eq] at hr3
  obtain ⟨i1, i2⟩ := inter_pre GK c2
  refine ⟨_, _, _, _, rfl, hr3.mono s5, hr5, real_pre GK, i1, i2, fun H6 s6 => .inr ⟨true, rfl, small5' (by show 1 ≤ 16000000; decide), fun p hp => fin _ _ _ (((s13.trans s5).trans s6).trans (same_upd hp)) st1 (li [1]) (.at (((s13.trans s5).trans s6)) hp)⟩⟩
def R_complement_counts : List Int → Kqg4.Request → Prop := fun l q => l = [] ∧ q = .complementMatchingCounts
theorem compl_len {n : Nat} (h : n ≤ 7) (g : Kqg4.Graph) (hg : g.vertexCount = n) : (compE g).length ≤ 21 := by
  unfold compE
  refine Nat.le_trans (List.length_filter_le _ _) ?_
  rw [hg]
  have : ∀ n : Nat, n < 8 → (allE n).length ≤ 21 := by decide +kernel
  exact this n (by omega)
abbrev s_complement_counts : Stmt := topS 82
theorem sc_complement_counts : FnScope ["desk", "numbers"] ["desk", "numbers"] (defScope s_complement_counts) := ⟨rfl, rfl, rfl, by decide +kernel, rfl, by decide +kernel, by decide +kernel⟩
theorem d_complement_counts (T : Nm K mg) (G : GC K C) (DK : DC0 K DC) (d_counted : Cl P w K mg base CX0 1 "counted" spCounted) (d_matching_counts : Cl P w K mg base CX0 3 "matching_counts" (spCts C)) (m_complement : Mt P w K mg base 3 C "complement" (spCompl C)) (D : Df K mg "complement_counts" s_complement_counts ["desk", "numbers"]) : Cl P w K mg base (L2.CX P w) 4 "complement_counts" (spDeed C DC CR true R_complement_counts) := by
  refine D.clX sc_complement_counts (fun vs H Q E h => ?_) (fun f cdv A outer s H vs Q E hr h => ?_)
  · obtain ⟨_, _, _, _, _, rfl, _⟩ := h; rfl
  have tk : Takes (cxOf (L2.CX P w) P w K mg base ["desk", "numbers"] "complement_counts" (defScope s_complement_counts) f cdv A outer s H E) (fun cls d _ H => E cls d H) := takes_of rfl rfl rfl rfl
  refine ⟨_, (pss_one (ps_ret (pe_c0 d_counted hr (by decide) rfl (pa_cons (pe_c0 d_matching_counts hr (by decide) rfl (pa_cons (pe_mz m_complement hr (by decide) (k_fld (K := K) rfl (pv 0) rfl)) pa_nil)) pa_nil)))), ?_⟩
  obtain ⟨da, nv, nums, st, rq, rfl, dk, ln, rr, gok, nz, q1, q2⟩ := h
  obtain ⟨g, rfl⟩ : ∃ g, st = some g := Option.ne_none_iff_exists'.mp (nz rfl)
  have GK := gok g rfl
  obtain ⟨dx, gv, ha, gt⟩ := id dk
  obtain ⟨ga, gdx, el, rfl, h1, h2⟩ := id gt
  have n7 := GK.n7
  have n1 := GK.n1
  have e12 := GK.e12
  have sm : Sm g := ⟨by omega, by omega⟩
  have fin : ∀ r H' res, Same H H' → Kqg4.step (some g) rq = (some g, res) → LI H' r (Kqg4Neutral.fields res) → Fr H r → Q r H' := fun r H' res s hs hl hf => q1 r H' (fun b o _ hb => s _ _ hb) (by rw [hs]; exact DkAt.mono s dk) (by rw [hs]; exact hl) hf (fun z => by cases z)
  have er : ∀ c, Kqg4.step (some g) rq = (some g, .value c) → ErrK CR E H c := q2
  obtain ⟨rfl, rfl⟩ := rr
  refine ⟨_, rfl, da, DC, dx, _, _, rfl, ha, DK.cl, DK.nG, lkG, ga, gdx, _, rfl, h1, lkM (by decide +kernel) (by decide +kernel), ?_⟩
  refine ⟨_, g, rfl, gt, sm, by omega, fun E' r H1 so s1 gt1 => ?_⟩
  have le : E'.length ≤ 21 := by rw [so.perm.length_eq]; exact compl_len n7 g rfl
  refine ⟨_, _, rfl, gt1, le, by show g.vertexCount ≤ 1000; omega, fun r2 H2 s2 hr2 => ?_⟩
  refine ⟨_, _, rfl, hr2, by unfold cts; rw [List.length_map, List.length_range]; show g.vertexCount / 2 + 1 ≤ 1000; omega, fun r3 H3 s3 hr3 ff => fin r3 H3 (Kqg4.listResult (Kqg4.matchingCounts (Kqg4.complement g))) ((s1.trans s2).trans s3) rfl ?_ (ff.old ((s1.trans s2)))⟩
  show LI H3 r3 (((Kqg4.matchingCounts (Kqg4.complement g)).length : Int) :: (Kqg4.matchingCounts (Kqg4.complement g)).map (fun x : Nat => (x : Int)))
  have e0 : cts ⟨g.vertexCount, E'⟩ = cts (Kqg4.complement g) := by
    unfold cts
    refine List.map_congr_left fun k _ => ?_
    show ((MG.cnt E' k : Nat) : Int) = ((MG.cnt (Kqg4.complement g).edges k : Nat) : Int)
    rw [MG.cnt_perm so.perm k, comp_mem]
  have e : (Kqg4.matchingCounts (Kqg4.complement g)).length = (cts (Kqg4.complement g)).length := by rw [← cts_is, List.length_map]
  rw [cts_is, e, ← e0]; exact hr3
def R_complement_formula : List Int → Kqg4.Request → Prop := fun l q => l = [] ∧ q = .complementFormula
abbrev s_complement_formula : Stmt := topS 83
theorem sc_complement_formula : FnScope ["desk", "numbers"] ["desk", "numbers"] (defScope s_complement_formula) := ⟨rfl, rfl, rfl, by decide +kernel, rfl, by decide +kernel, by decide +kernel⟩
theorem d_complement_formula (T : Nm K mg) (G : GC K C) (DK : DC0 K DC) (d_complement_sum : Cl P w K mg base CX0 4 "complement_sum" (spCsum C)) (D : Df K mg "complement_formula" s_complement_formula ["desk", "numbers"]) : Cl P w K mg base (L2.CX P w) 5 "complement_formula" (spDeed C DC CR true R_complement_formula) := by
  refine D.clX sc_complement_formula (fun vs H Q E h => ?_) (fun f cdv A outer s H vs Q E hr h => ?_)
  · obtain ⟨_, _, _, _, _, rfl, _⟩ := h; rfl
  have tk : Takes (cxOf (L2.CX P w) P w K mg base ["desk", "numbers"] "complement_formula" (defScope s_complement_formula) f cdv A outer s H E) (fun cls d _ H => E cls d H) := takes_of rfl rfl rfl rfl
  refine ⟨_, (pss_one (ps_ret (pe_lst (pa_cons (pe_c0 d_complement_sum hr (by decide) rfl (pa_cons (k_fld (K := K) rfl (pv 0) rfl) pa_nil)) pa_nil)))), ?_⟩
  obtain ⟨da, nv, nums, st, rq, rfl, dk, ln, rr, gok, nz, q1, q2⟩ := h
  obtain ⟨g, rfl⟩ : ∃ g, st = some g := Option.ne_none_iff_exists'.mp (nz rfl)
  have GK := gok g rfl
  obtain ⟨dx, gv, ha, gt⟩ := id dk
  obtain ⟨ga, gdx, el, rfl, h1, h2⟩ := id gt
  have n7 := GK.n7
  have n1 := GK.n1
  have e12 := GK.e12
  have sm : Sm g := ⟨by omega, by omega⟩
  have fin : ∀ r H' res, Same H H' → Kqg4.step (some g) rq = (some g, res) → LI H' r (Kqg4Neutral.fields res) → Fr H r → Q r H' := fun r H' res s hs hl hf => q1 r H' (fun b o _ hb => s _ _ hb) (by rw [hs]; exact DkAt.mono s dk) (by rw [hs]; exact hl) hf (fun z => by cases z)
  have er : ∀ c, Kqg4.step (some g) rq = (some g, .value c) → ErrK CR E H c := q2
  obtain ⟨rfl, rfl⟩ := rr
  refine ⟨_, rfl, da, DC, dx, _, _, rfl, ha, DK.cl, DK.nG, lkG, ?_⟩
  refine ⟨_, g, rfl, gt, by omega, by omega, fun H1 s1 => ⟨small5' (by show 1 ≤ 16000000; decide), fun p hp => ?_⟩⟩
  have e : csum g = Kqg4.complementFormula g := by
    rw [MG.cform_is]
    unfold csum
    congr 1
    refine List.map_congr_left fun k hk => ?_
    rw [odd_is _ (by omega)]
  rw [e]
  exact fin _ _ (.value (Kqg4.complementFormula g)) (s1.trans (same_upd hp)) rfl (li [Kqg4.complementFormula g]) (.at (s1) hp)
def R_tell_paths : List Int → Kqg4.Request → Prop := fun l q => ∃ v : Nat, l = [(v : Int)] ∧ q = .countPaths v
abbrev s_tell_paths : Stmt := topS 84
theorem sc_tell_paths : FnScope ["desk", "numbers"] ["desk", "numbers"] (defScope s_tell_paths) := ⟨rfl, rfl, rfl, by decide +kernel, rfl, by decide +kernel, by decide +kernel⟩
theorem d_tell_paths (T : Nm K mg) (G : GC K C) (DK : DC0 K DC) (d_want_vertices : Cl P w K mg base (L2.CX P w) 4 "want_vertices" (spWv C CR)) (d_count_paths : Cl P w K mg base CX0 4 "count_paths" (spCp C)) (D : Df K mg "tell_paths" s_tell_paths ["desk", "numbers"]) : Cl P w K mg base (L2.CX P w) 5 "tell_paths" (spDeed C DC CR true R_tell_paths) := by
  refine D.clX sc_tell_paths (fun vs H Q E h => ?_) (fun f cdv A outer s H vs Q E hr h => ?_)
  · obtain ⟨_, _, _, _, _, rfl, _⟩ := h; rfl
  have tk : Takes (cxOf (L2.CX P w) P w K mg base ["desk", "numbers"] "tell_paths" (defScope s_tell_paths) f cdv A outer s H E) (fun cls d _ H => E cls d H) := takes_of rfl rfl rfl rfl
  refine ⟨_, (pss_cons (ps_expr (pe_cx d_want_vertices hr (by decide) rfl tk (pa_cons (k_fld (K := K) rfl (pv 0) rfl) (pa_cons (pv 1) pa_nil))))
        (pss_one (ps_ret (pe_lst (pa_cons (pe_c0 d_count_paths hr (by decide) rfl (pa_cons (k_fld (K := K) rfl (pv 0) rfl) (pa_cons (pe_ix (k_ixL (K := K) rfl) (pv 1) pe_int (fun _ _ => rfl)) pa_nil))) pa_nil))))), ?_⟩
  obtain ⟨da, nv, nums, st, rq, rfl, dk, ln, rr, gok, nz, q1, q2⟩ := h
  obtain ⟨g, rfl⟩ : ∃ g, st = some g := Option.ne_none_iff_exists'.mp (nz rfl)
  have GK := gok g rfl
  obtain ⟨dx, gv, ha, gt⟩ := id dk
  obtain ⟨ga, gdx, el, rfl, h1, h2⟩ := id gt
  have n7 := GK.n7
  have n1 := GK.n1
  have e12 := GK.e12
  have sm : Sm g := ⟨by omega, by omega⟩
  have fin : ∀ r H' res, Same H H' → Kqg4.step (some g) rq = (some g, res) → LI H' r (Kqg4Neutral.fields res) → Fr H r → Q r H' := fun r H' res s hs hl hf => q1 r H' (fun b o _ hb => s _ _ hb) (by rw [hs]; exact DkAt.mono s dk) (by rw [hs]; exact hl) hf (fun z => by cases z)
  have er : ∀ c, Kqg4.step (some g) rq = (some g, .value c) → ErrK CR E H c := q2
  obtain ⟨v, rfl, rfl⟩ := rr
  have st1 : Kqg4.step (some g) (.countPaths v) = (some g, if g.vertexCount ≤ v then .value (-2) else .value (Kqg4.paths g v).length) := rfl
  refine ⟨_, rfl, da, DC, dx, _, _, rfl, ha, DK.cl, DK.nG, lkG, ?_⟩
  refine ⟨_, rfl, _, nv, g, [v], rfl, gt, ln, (by show 1 ≤ 1000; decide), fun c H1 s1 => ?_, fun c => er (-2) (by rw [st1, if_pos (by rw [all_one] at c; have := of_decide_eq_false c; omega)])⟩
  rw [all_one] at c
  have c2 := of_decide_eq_true c
  rw [if_neg (by omega)] at st1
  obtain ⟨na, rfl, hna⟩ := ln
  refine ⟨_, rfl, da, DC, dx, _, _, rfl, s1 _ _ ha, DK.cl, DK.nG, lkG, ?_⟩
  refine ⟨_, rfl, na, _, _, .int (v : Int), rfl, rfl, SqL.of (s1 _ _ hna), atI0, ?_⟩
  exact ⟨_, g, v, rfl, gt.mono s1, sm, GK.ord, c2, n7, fun H2 s2 => ⟨small5' (by show 1 ≤ 16000000; decide), fun p hp => fin _ _ _ ((s1.trans s2).trans (same_upd hp)) st1 (li [((Kqg4.paths g v).length : Int)]) (.at ((s1.trans s2)) hp)⟩⟩
def R_path_tree_polynomial : List Int → Kqg4.Request → Prop := fun l q => ∃ v : Nat, l = [(v : Int)] ∧ q = .pathTreePolynomial v
abbrev s_path_tree_polynomial : Stmt := topS 85
theorem sc_path_tree_polynomial : FnScope ["desk", "numbers"] ["desk", "numbers"] (defScope s_path_tree_polynomial) := ⟨rfl, rfl, rfl, by decide +kernel, rfl, by decide +kernel, by decide +kernel⟩
theorem d_path_tree_polynomial (T : Nm K mg) (G : GC K C) (DK : DC0 K DC) (d_want_vertices : Cl P w K mg base (L2.CX P w) 4 "want_vertices" (spWv C CR)) (d_want : Cl P w K mg base (L2.CX P w) 3 "want" (spWant CR)) (d_count_paths : Cl P w K mg base CX0 4 "count_paths" (spCp C)) (d_told_polynomial : Cl P w K mg base CX0 1 "told_polynomial" spTold) (d_matching_polynomial : Cl P w K mg base CX0 4 "matching_polynomial" (spMp C)) (d_path_tree : Cl P w K mg base CX0 4 "path_tree" (spPt C)) (D : Df K mg "path_tree_polynomial" s_path_tree_polynomial ["desk", "numbers"]) : Cl P w K mg base (L2.CX P w) 5 "path_tree_polynomial" (spDeed C DC CR true R_path_tree_polynomial) := by
  refine D.clX sc_path_tree_polynomial (fun vs H Q E h => ?_) (fun f cdv A outer s H vs Q E hr h => ?_)
  · obtain ⟨_, _, _, _, _, rfl, _⟩ := h; rfl
  have tk : Takes (cxOf (L2.CX P w) P w K mg base ["desk", "numbers"] "path_tree_polynomial" (defScope s_path_tree_polynomial) f cdv A outer s H E) (fun cls d _ H => E cls d H) := takes_of rfl rfl rfl rfl
  refine ⟨_, (pss_cons (ps_expr (pe_cx d_want_vertices hr (by decide) rfl tk (pa_cons (k_fld (K := K) rfl (pv 0) rfl) (pa_cons (pv 1) pa_nil))))
        (pss_cons (ps_expr (pe_cx d_want hr (by decide) rfl tk (pa_cons (pe_cmpR (op_le) (pe_c0 d_count_paths hr (by decide) rfl (pa_cons (k_fld (K := K) rfl (pv 0) rfl) (pa_cons (pe_ix (k_ixL (K := K) rfl) (pv 1) pe_int (fun _ _ => rfl)) pa_nil))) (pe_gc rfl T.c_MOST_PATHS) (nomark _)) (pa_cons (pe_gc rfl T.c_TOO_LARGE) pa_nil))))
        (pss_one (ps_ret (pe_c0 d_told_polynomial hr (by decide) rfl (pa_cons (pe_c0 d_matching_polynomial hr (by decide) rfl (pa_cons (pe_c0 d_path_tree hr (by decide) rfl (pa_cons (k_fld (K := K) rfl (pv 0) rfl) (pa_cons (pe_ix (k_ixL (K := K) rfl) (pv 1) pe_int (fun _ _ => rfl)) pa_nil))) pa_nil)) pa_nil)))))), ?_⟩
  obtain ⟨da, nv, nums, st, rq, rfl, dk, ln, rr, gok, nz, q1, q2⟩ := h
  obtain ⟨g, rfl⟩ : ∃ g, st = some g := Option.ne_none_iff_exists'.mp (nz rfl)
  have GK := gok g rfl
  obtain ⟨dx, gv, ha, gt⟩ := id dk
  obtain ⟨ga, gdx, el, rfl, h1, h2⟩ := id gt
  have n7 := GK.n7
  have n1 := GK.n1
  have e12 := GK.e12
  have sm : Sm g := ⟨by omega, by omega⟩
  have fin : ∀ r H' res, Same H H' → Kqg4.step (some g) rq = (some g, res) → LI H' r (Kqg4Neutral.fields res) → Fr H r → Q r H' := fun r H' res s hs hl hf => q1 r H' (fun b o _ hb => s _ _ hb) (by rw [hs]; exact DkAt.mono s dk) (by rw [hs]; exact hl) hf (fun z => by cases z)
  have er : ∀ c, Kqg4.step (some g) rq = (some g, .value c) → ErrK CR E H c := q2
  obtain ⟨v, rfl, rfl⟩ := rr
  have st1 : Kqg4.step (some g) (.pathTreePolynomial v) = (some g, if g.vertexCount ≤ v then .value (-2) else if 16 < (Kqg4.paths g v).length then .value (-75) else Kqg4.polynomialResult (Kqg4.pathTreePolynomials g g.vertexCount [v]).1) := rfl
  refine ⟨_, rfl, da, DC, dx, _, _, rfl, ha, DK.cl, DK.nG, lkG, ?_⟩
  refine ⟨_, rfl, _, nv, g, [v], rfl, gt, ln, (by show 1 ≤ 1000; decide), fun c H1 s1 => ?_, fun c => er (-2) (by rw [st1, if_pos (by rw [all_one] at c; have := of_decide_eq_false c; omega)])⟩
  rw [all_one] at c
  have c2 := of_decide_eq_true c
  rw [if_neg (by omega)] at st1
  obtain ⟨na, rfl, hna⟩ := ln
  refine ⟨_, rfl, da, DC, dx, _, _, rfl, s1 _ _ ha, DK.cl, DK.nG, lkG, ?_⟩
  refine ⟨_, rfl, na, _, _, .int (v : Int), rfl, rfl, SqL.of (s1 _ _ hna), atI0, ?_⟩
  refine ⟨_, g, v, rfl, gt.mono s1, sm, GK.ord, c2, n7, fun H2 s2 => ?_⟩
  have s12 := s1.trans s2
  refine ⟨_, _, rfl, rfl, ?_⟩
  refine ⟨_, _, rfl, fun d => ?_, fun d => (er (-75) (by rw [st1, if_pos (by have := of_decide_eq_false d; omega)])).mono s12⟩
  have d2 := of_decide_eq_true d
  rw [if_neg (by omega)] at st1
  refine ⟨_, rfl, da, DC, dx, _, _, rfl, s12 _ _ ha, DK.cl, DK.nG, lkG, ?_⟩
  refine ⟨_, rfl, na, _, _, .int (v : Int), rfl, rfl, SqL.of (s12 _ _ hna), atI0, ?_⟩
  refine ⟨_, g, v, rfl, gt.mono s12, sm, GK.ord, c2, n7, fun E' Jl r H3 so jl jc s3 gt3 => ?_⟩
  have pl := MG.pe_len g g.vertexCount [v]
  have pl2 : (Kqg4.pathsFrom g g.vertexCount [v]).length = (Kqg4.paths g v).length := rfl
  have le : E'.length ≤ 21 := by rw [so.perm.length_eq, jl]; omega
  refine ⟨_, _, rfl, gt3, le, by show (Kqg4.paths g v).length ≤ 1000; omega, fun r4 H4 s4 hr4 => ?_⟩
  refine ⟨_, _, rfl, hr4, by rw [MG.mp_len]; show (Kqg4.paths g v).length + 1 ≤ 1000; omega, fun r5 H5 s5 hr5 ff => fin r5 H5 _ (((s12.trans s3).trans s4).trans s5) st1 ?_ (ff.old (((s12.trans s3).trans s4)))⟩
  rw [MG.ptree_is c2, MG.poly_fields]
  have e : MG.mp (Kqg4.paths g v).length E' = MG.mp (Kqg4.paths g v).length (MG.pe g g.vertexCount [v]) := MG.mp_congr _ fun k => by rw [MG.cnt_perm so.perm k]; exact jc k
  rw [← e]
  exact hr5
def R_tell_matching : List Int → Kqg4.Request → Prop := fun l q => ∃ k j : Nat, l = [(k : Int), (j : Int)] ∧ q = .matching k j
abbrev s_tell_matching : Stmt := topS 86
theorem sc_tell_matching : FnScope ["desk", "numbers", "some"] ["desk", "numbers"] (defScope s_tell_matching) := ⟨rfl, rfl, rfl, by decide +kernel, rfl, by decide +kernel, by decide +kernel⟩
theorem d_tell_matching (T : Nm K mg) (G : GC K C) (DK : DC0 K DC) (d_of_size : Cl P w K mg base CX0 3 "of_size" (spOfSize C)) (d_want : Cl P w K mg base (L2.CX P w) 3 "want" (spWant CR)) (d_told_edges : Cl P w K mg base CX0 1 "told_edges" spToldE) (D : Df K mg "tell_matching" s_tell_matching ["desk", "numbers"]) : Cl P w K mg base (L2.CX P w) 4 "tell_matching" (spDeed C DC CR true R_tell_matching) := by
  refine D.clX sc_tell_matching (fun vs H Q E h => ?_) (fun f cdv A outer s H vs Q E hr h => ?_)
  · obtain ⟨_, _, _, _, _, rfl, _⟩ := h; rfl
  have tk : Takes (cxOf (L2.CX P w) P w K mg base ["desk", "numbers", "some"] "tell_matching" (defScope s_tell_matching) f cdv A outer s H E) (fun cls d _ H => E cls d H) := takes_of rfl rfl rfl rfl
  refine ⟨_, (pss_cons (ps_set (i := 2) sc_tell_matching.nd rfl (Or.inl rfl) (pe_c0 d_of_size hr (by decide) rfl (pa_cons (k_fld (K := K) rfl (pv 0) rfl) (pa_cons (pe_ix (k_ixL (K := K) rfl) (pv 1) pe_int (fun _ _ => rfl)) pa_nil))))
        (pss_cons (ps_expr (pe_cx d_want hr (by decide) rfl tk (pa_cons (pe_cmpR (op_lt) (pe_ix (k_ixL (K := K) rfl) (pv 1) pe_int (fun _ _ => rfl)) (pe_callB (k_len (K := K) rfl) rfl T.n_len (by decide +kernel) (pa_cons (pv 2) pa_nil)) (nomark _)) (pa_cons (pe_gc rfl T.c_NOT_THERE) pa_nil))))
        (pss_one (ps_ret (pe_c0 d_told_edges hr (by decide) rfl (pa_cons (pe_ix (k_ixL (K := K) rfl) (pv 2) (pe_ix (k_ixL (K := K) rfl) (pv 1) pe_int (fun _ _ => rfl)) (fun _ _ => rfl)) pa_nil)))))), ?_⟩
  obtain ⟨da, nv, nums, st, rq, rfl, dk, ln, rr, gok, nz, q1, q2⟩ := h
  obtain ⟨g, rfl⟩ : ∃ g, st = some g := Option.ne_none_iff_exists'.mp (nz rfl)
  have GK := gok g rfl
  obtain ⟨dx, gv, ha, gt⟩ := id dk
  obtain ⟨ga, gdx, el, rfl, h1, h2⟩ := id gt
  have n7 := GK.n7
  have n1 := GK.n1
  have e12 := GK.e12
  have sm : Sm g := ⟨by omega, by omega⟩
  have fin : ∀ r H' res, Same H H' → Kqg4.step (some g) rq = (some g, res) → LI H' r (Kqg4Neutral.fields res) → Fr H r → Q r H' := fun r H' res s hs hl hf => q1 r H' (fun b o _ hb => s _ _ hb) (by rw [hs]; exact DkAt.mono s dk) (by rw [hs]; exact hl) hf (fun z => by cases z)
  have er : ∀ c, Kqg4.step (some g) rq = (some g, .value c) → ErrK CR E H c := q2
  obtain ⟨k, j, rfl, rfl⟩ := rr
  have st1 : Kqg4.step (some g) (.matching k j) = (some g, match ((Kqg4.matchings g.edges).filter fun m => m.length == k)[j]? with | none => .value (-2) | some m => .values m.length (Kqg4.edgeFields m)) := rfl
  rw [MG.mts_eq] at st1
  obtain ⟨na, rfl, hna⟩ := ln
  refine ⟨_, rfl, da, DC, dx, _, _, rfl, ha, DK.cl, DK.nG, lkG, ?_⟩
  refine ⟨_, rfl, na, _, _, .int (k : Int), rfl, rfl, SqL.of hna, atI0, ?_⟩
  refine ⟨_, g, k, rfl, gt, by omega, fun r H1 s1 hr1 => ?_⟩
  have sub : ∀ m, m ∈ (mts g.edges).filter (fun m => m.length == k) → m.length ≤ 12 := fun m hm => by
    have := mts_sub _ m (List.mem_filter.mp hm).1
    omega
  change Kqg4.step (some g) (.matching k j) = (some g, match ((mts g.edges).filter fun m => m.length == k)[j]? with | none => .value (-2) | some m => .values m.length (Kqg4.edgeFields m)) at st1
  generalize (mts g.edges).filter (fun m => m.length == k) = M at *
  obtain ⟨b, xs, rfl, hb, hA⟩ := hr1.list
  have lx := hA.len
  rw [List.length_map] at lx
  refine ⟨_, rfl, na, _, _, .int (j : Int), rfl, rfl, SqL.of (s1 _ _ hna), atI1, ?_⟩
  refine ⟨_, rfl, b, xs, rfl, .inl (SqL.of hb), _, _, rfl, rfl, ?_⟩
  refine ⟨_, _, rfl, fun d => ?_, fun d => (er (-2) (by rw [st1, List.getElem?_eq_none (by have := of_decide_eq_false d; omega)])).mono s1⟩
  have d2 : j < M.length := by have := of_decide_eq_true d; omega
  have hd : (M.map eM)[j]? = some (eM M[j]) := by rw [List.getElem?_map, List.getElem?_eq_getElem d2]; rfl
  obtain ⟨y, hy, hyr⟩ := hA.at hd
  rw [List.getElem?_eq_getElem d2] at st1
  refine ⟨_, rfl, _, rfl, na, _, _, .int (j : Int), rfl, rfl, SqL.of (s1 _ _ hna), atI1, b, _, _, _, rfl, rfl, SqL.of hb, atI_nat hy, ?_⟩
  refine ⟨_, M[j], rfl, hyr, by have := sub _ (List.getElem_mem d2); omega, fun r2 H2 s2 hr2 ff => fin r2 H2 _ (s1.trans s2) st1 hr2 (ff.old (s1))⟩
def R_tell_multiplicity : List Int → Kqg4.Request → Prop := fun l q => ∃ (a : Int) (b : Nat), l = [a, (b : Int)] ∧ q = .multiplicity a b
abbrev s_tell_multiplicity : Stmt := topS 87
theorem sc_tell_multiplicity : FnScope ["desk", "numbers"] ["desk", "numbers"] (defScope s_tell_multiplicity) := ⟨rfl, rfl, rfl, by decide +kernel, rfl, by decide +kernel, by decide +kernel⟩
theorem d_tell_multiplicity (T : Nm K mg) (G : GC K C) (DK : DC0 K DC) (d_want_fraction : Cl P w K mg base (L2.CX P w) 4 "want_fraction" (spWf CR)) (d_multiplicity : Cl P w K mg base CX0 2 "multiplicity" spMul) (d_scaled : Cl P w K mg base CX0 1 "scaled" spScl) (d_matching_polynomial : Cl P w K mg base CX0 4 "matching_polynomial" (spMp C)) (D : Df K mg "tell_multiplicity" s_tell_multiplicity ["desk", "numbers"]) : Cl P w K mg base (L2.CX P w) 5 "tell_multiplicity" (spDeed C DC CR true R_tell_multiplicity) := by
  refine D.clX sc_tell_multiplicity (fun vs H Q E h => ?_) (fun f cdv A outer s H vs Q E hr h => ?_)
  · obtain ⟨_, _, _, _, _, rfl, _⟩ := h; rfl
  have tk : Takes (cxOf (L2.CX P w) P w K mg base ["desk", "numbers"] "tell_multiplicity" (defScope s_tell_multiplicity) f cdv A outer s H E) (fun cls d _ H => E cls d H) := takes_of rfl rfl rfl rfl
  refine ⟨_, (pss_cons (ps_expr (pe_cx d_want_fraction hr (by decide) rfl tk (pa_cons (pv 1) pa_nil)))
        (pss_one (ps_ret (pe_lst (pa_cons (pe_c0 d_multiplicity hr (by decide) rfl (pa_cons (pe_c0 d_scaled hr (by decide) rfl (pa_cons (pe_c0 d_matching_polynomial hr (by decide) rfl (pa_cons (k_fld (K := K) rfl (pv 0) rfl) pa_nil)) (pa_cons (pe_ix (k_ixL (K := K) rfl) (pv 1) pe_int (fun _ _ => rfl)) pa_nil))) (pa_cons (pe_ix (k_ixL (K := K) rfl) (pv 1) pe_int (fun _ _ => rfl)) pa_nil))) pa_nil))))), ?_⟩
  obtain ⟨da, nv, nums, st, rq, rfl, dk, ln, rr, gok, nz, q1, q2⟩ := h
  obtain ⟨g, rfl⟩ : ∃ g, st = some g := Option.ne_none_iff_exists'.mp (nz rfl)
  have GK := gok g rfl
  obtain ⟨dx, gv, ha, gt⟩ := id dk
  obtain ⟨ga, gdx, el, rfl, h1, h2⟩ := id gt
  have n7 := GK.n7
  have n1 := GK.n1
  have e12 := GK.e12
  have sm : Sm g := ⟨by omega, by omega⟩
  have fin : ∀ r H' res, Same H H' → Kqg4.step (some g) rq = (some g, res) → LI H' r (Kqg4Neutral.fields res) → Fr H r → Q r H' := fun r H' res s hs hl hf => q1 r H' (fun b o _ hb => s _ _ hb) (by rw [hs]; exact DkAt.mono s dk) (by rw [hs]; exact hl) hf (fun z => by cases z)
  have er : ∀ c, Kqg4.step (some g) rq = (some g, .value c) → ErrK CR E H c := q2
  obtain ⟨a, b, rfl, rfl⟩ := rr
  have st1 : Kqg4.step (some g) (.multiplicity a b) = (some g, if Kqg1.isArgument a b = false then .value (-22) else .value (Kqg1.multiplicity (Kqg4.matchingPolynomial g) (Kqg1.rational a b))) := rfl
  refine ⟨_, rfl, nv, a, b, rfl, ln, fun ia => ?_, fun ia => er (-22) (by rw [st1, if_pos ia])⟩
  rw [if_neg (by rw [ia]; decide)] at st1
  obtain ⟨na, rfl, hna⟩ := ln
  have ia2 := ia
  unfold Kqg1.isArgument at ia2
  simp only [Bool.and_eq_true, decide_eq_true_eq] at ia2
  obtain ⟨⟨i1, i2⟩, i3⟩ := ia2
  refine ⟨_, rfl, da, DC, dx, _, _, rfl, ha, DK.cl, DK.nG, lkG, ?_⟩
  refine ⟨_, g, rfl, gt, by omega, by omega, fun r H1 s1 hr1 => ?_⟩
  have ll := MG.mp_len g.vertexCount g.edges
  have bt := (bt_mp g.vertexCount g.edges (by omega)).mono (B := 64) (by decide)
  refine ⟨_, rfl, na, _, _, .int (b : Int), rfl, rfl, SqL.of (s1 _ _ hna), atI1, ?_⟩
  refine ⟨_, _, (b : Int), rfl, hr1, bt, by omega, by omega, by omega, fun r2 H2 s2 hr2 => ?_⟩
  have s12 := s1.trans s2
  refine ⟨_, rfl, na, _, _, .int a, rfl, rfl, SqL.of (s12 _ _ hna), atI0, ?_⟩
  obtain ⟨rs, sp⟩ := GOK.sp GK.ord
  have sp2 := sp.scl (d := (b : Int)) (by omega)
  have ls := MG.scl_len (b : Int) (MG.mp g.vertexCount g.edges)
  have top := MG.shf_top sp2 a (n := (MG.scl (b : Int) (MG.mp g.vertexCount g.edges)).length - 1) (by omega)
  refine ⟨_, _, a, rfl, hr2, by omega, by omega, by omega, by omega, ⟨_, top.2, by rw [top.1]; decide⟩, fun H3 s3 => ⟨small5' (by show 1 ≤ 16000000; decide), fun p hp => fin _ _ _ ((s12.trans s3).trans (same_upd hp)) st1 ?_ (.at ((s12.trans s3)) hp)⟩⟩
  rw [MG.mpoly_is, MG.mult_is sp a i2]
  exact li [((MG.zah (MG.shf a ((MG.scl (b : Int) (MG.mp g.vertexCount g.edges)).length - 1) (MG.scl (b : Int) (MG.mp g.vertexCount g.edges))) : Nat) : Int)]
end
end WK

-- part W20
set_option maxRecDepth 100000
set_option maxHeartbeats 4000000
namespace WK
open PySem PySem.Spec PyProof.Rows L2
open MG (GOK)
theorem GAt.desk {C DC a dx : Addr} {H : Hp} {v x : V} {o : HO} {g : Kqg4.Graph} (hd : H a = some (.ins DC dx [("graph", x)])) (h : GAt C H v g) : GAt C (upd H a o) v g := by
  obtain ⟨ga, gdx, l, rfl, h1, h2⟩ := h
  refine ⟨ga, gdx, l, rfl, ?_, Rp.ins hd _ h2⟩
  rw [upd_ne (ne_of h1 hd (by intro z; injection z with _ _ z3; cases z3))]
  exact h1
theorem made_graphR {C : Addr} {H1 : Hp} {ve : V} {n : Nat} {E : List Ed} {R : Addr → Hp → Prop} (h : Rp H1 ve (.list (E.map eE))) (q : ∀ E' a gdx l H', SortOf E' E → Same H1 H' → GAt C H' (.ref a) ⟨n, E'⟩ → H' a = some (.ins C gdx [("vertex_count", .int (n : Nat)), ("edges", .ref l)]) → H1 l = none → R a H') :
    ∀ x dx, H1 x = none → H1 dx = none → dx ≠ x → spGInit C (.ref x :: ([.int (n : Nat), ve] ++ [])) (upd (upd H1 dx (.own x)) x (.ins C dx [])) (fun v H2 => v = .non ∧ R x H2) E0 := by
  intro x dx nx nd ne
  have s1 : Same H1 (upd (upd H1 dx (.own x)) x (.ins C dx [])) := fun b o e => by
    rw [upd_ne (ne_of_none e nx), upd_ne (ne_of_none e nd)]; exact e
  refine ⟨x, dx, n, ve, E, rfl, upd_same, h.mono s1, fun E' l H' so k gt hx hl => ⟨rfl, q E' _ dx l H' so (fun b o e => k b o (s1 b o e) (ne_of_none e nx)) gt hx (gone s1 hl)⟩⟩
theorem put_graph {x y : V} : putF "graph" y [(("graph" : Str), x)] = [(("graph" : Str), y)] := put_here
theorem DkAt.get {C DC a : Addr} {H : Hp} : ∀ {st : Option Kqg4.Graph}, DkAt C DC H a st → ∃ dx x, H a = some (.ins DC dx [("graph", x)])
  | none, ⟨dx, h⟩ => ⟨dx, _, h⟩
  | some _, ⟨dx, gv, h, _⟩ => ⟨dx, gv, h⟩
theorem sb_end {a p : Addr} {H H' : Hp} {o u : HO} (s : Same H H') (hp : upd H' a o p = none) : SB a H (upd (upd H' a o) p u) := fun b x nb hb => by
  have h1 : upd H' a o b = some x := by rw [upd_ne nb]; exact s _ _ hb
  rw [upd_ne (ne_of_none h1 hp)]; exact h1
theorem dk_end {C DC a p dx : Addr} {H' : Hp} {v : V} {x : V} {u : HO} {g : Kqg4.Graph} (hd : H' a = some (.ins DC dx [("graph", x)])) (gt : GAt C H' v g) (hp : upd H' a (.ins DC dx [("graph", v)]) p = none) : DkAt C DC (upd (upd H' a (.ins DC dx [("graph", v)])) p u) a (some g) := by
  have s := same_upd (o := u) hp
  exact ⟨dx, v, s _ _ upd_same, (gt.desk hd).mono s⟩
theorem len_cut {E : List Ed} (nd : E.Nodup) {e : Ed} (m : e ∈ E) : (E.filter fun f => !decide (f = e)).length = E.length - 1 := by
  rw [← List.length_erase_of_mem m, nd.erase_eq_filter]
  congr 1
  congr 1
  funext f
  by_cases c : f = e
  · rw [decide_eq_true c, c]; simp
  · rw [decide_eq_false c]; exact (bne_iff_ne.mpr c).symm
theorem fr_end {a p : Addr} {H H' : Hp} {o : HO} (s : Same H H') (hp : upd H' a o p = none) : Fr H (.ref p) := by
  refine ⟨p, rfl, gone s ?_⟩
  by_cases c : p = a
  · rw [c, upd_same] at hp; cases hp
  · rwa [upd_ne c] at hp
theorem nl_end {C DC a p v F dx gdx vl : Addr} {H H2 : Hp} {vc x : V} {u : HO} (hd : H2 a = some (.ins DC dx [("graph", x)])) (hv : H2 v = some (.ins C gdx [("vertex_count", vc), ("edges", .ref vl)])) (hl : H vl = none) (hF : H F ≠ none) (hp : upd H2 a (.ins DC dx [("graph", .ref v)]) p = none) :
    Nl (upd (upd H2 a (.ins DC dx [("graph", .ref v)])) p u) a F := by
  intro D dx' gv C' gdx' vc' l h1 h2
  have s := same_upd (o := u) hp
  rw [s _ _ upd_same] at h1
  injection h1 with h1
  injection h1 with _ _ h1
  injection h1 with h1 _
  injection h1 with _ h1
  injection h1 with h1
  subst h1
  have nva : v ≠ a := ne_of hv hd (by intro z; injection z with _ _ z3; cases z3)
  rw [s _ _ (by rw [upd_ne nva]; exact hv)] at h2
  injection h2 with h2
  injection h2 with _ _ h2
  injection h2 with _ h2
  injection h2 with h2 _
  injection h2 with _ h2
  injection h2 with h2
  subst h2
  exact fun z => hF (by rw [← z]; exact hl)
section
variable {P : Program} {w : World} {K : PySem.W.Frag} {mg : Str → Option Value} {base : Heap} {C CR DC : Addr}
def R_create : List Int → Kqg4.Request → Prop := fun l q => ∃ n : Nat, l = [(n : Int)] ∧ q = .create n
abbrev s_create : Stmt := topS 65
theorem sc_create : FnScope ["desk", "numbers"] ["desk", "numbers"] (defScope s_create) := ⟨rfl, rfl, rfl, by decide +kernel, rfl, by decide +kernel, by decide +kernel⟩
theorem d_create (T : Nm K mg) (G : GC K C) (DK : DC0 K DC) (d_want : Cl P w K mg base (L2.CX P w) 3 "want" (spWant CR)) (mk_Graph : Mk1 P w K mg base 1 "Graph" C (spGInit C)) (D : Df K mg "create" s_create ["desk", "numbers"]) : Cl P w K mg base (L2.CX P w) 4 "create" (spDeed C DC CR false R_create) := by
  refine D.clX sc_create (fun vs H Q E h => ?_) (fun f cdv A outer s H vs Q E hr h => ?_)
  · obtain ⟨_, _, _, _, _, rfl, _⟩ := h; rfl
  have tk : Takes (cxOf (L2.CX P w) P w K mg base ["desk", "numbers"] "create" (defScope s_create) f cdv A outer s H E) (fun cls d _ H => E cls d H) := takes_of rfl rfl rfl rfl
  refine ⟨_, (pss_cons (ps_expr (pe_cx d_want hr (by decide) rfl tk (pa_cons (pe_chain (op_le) (op_le) pe_int (pe_ix (k_ixL (K := K) rfl) (pv 1) pe_int (fun _ _ => rfl)) (pe_gc rfl T.c_MOST_VERTICES)) (pa_cons (pe_gc rfl T.c_OUT_OF_RANGE) pa_nil))))
        (pss_cons (ps_fld (pv 0) (pe_g1 mk_Graph hr (by decide) rfl (pa_cons (pe_ix (k_ixL (K := K) rfl) (pv 1) pe_int (fun _ _ => rfl)) (pa_cons (pe_lst pa_nil) pa_nil))) rfl)
        (pss_one (ps_ret (pe_lst (pa_cons pe_int pa_nil)))))), ?_⟩
  obtain ⟨da, nv, nums, st, rq, rfl, dk, ln, rr, gok, nz, q1, q2⟩ := h

  obtain ⟨n, rfl, rfl⟩ := rr
  have st1 : Kqg4.step st (.create n) = if n < 1 ∨ Kqg4.maxVertices < n then (st, .value (-22)) else (some ⟨n, []⟩, .value 0) := by cases st <;> rfl
  obtain ⟨na, rfl, hna⟩ := ln
  refine ⟨_, rfl, na, _, _, .int (n : Int), rfl, rfl, SqL.of hna, atI0, _, _, rfl, rfl, _, rfl, ?_⟩
  by_cases hn : 1 ≤ n ∧ n ≤ 7
  · refine ifb (b := true) (decide_eq_true (by omega)) (fun _ => ?_) (fun c => absurd c (by decide))
    refine ⟨_, _, rfl, rfl, _, _, rfl, fun _ => ?_, fun c => absurd (of_decide_eq_false c) (by omega)⟩
    rw [if_neg (by unfold Kqg4.maxVertices; omega)] at st1
    rw [st1] at q1
    refine ⟨_, rfl, na, _, _, .int (n : Int), rfl, rfl, SqL.of hna, atI0, small5' (by show 0 ≤ 16000000; decide), fun p hp => ?_⟩
    obtain ⟨dx, x, hd⟩ := dk.get
    have s1 := same_upd (o := HO.lst []) hp
    refine made_graphR (E := []) (.lst upd_same .nil) fun E' v vdx vl H2 so s2 gt hvx hvl => ?_
    have e0 : E' = [] := so.perm.eq_nil
    subst e0
    have hd2 := s2 _ _ (s1 _ _ hd)
    refine ⟨_, rfl, da, DC, dx, _, rfl, hd2, DK.cl, DK.nG, (by show 1 < 1000; decide), ?_⟩
    rw [put_graph]
    refine ⟨small5' (by show 1 ≤ 16000000; decide), fun p2 hp2 => ?_⟩
    exact q1 _ _ (sb_end (s1.trans s2) hp2) (dk_end hd2 gt hp2) (li [0]) (fr_end (s1.trans s2) hp2) (fun _ F hF => nl_end hd2 hvx (gone s1 hvl) hF hp2)
  · have e22 : ErrK CR E H (-22) := q2 (-22) (by rw [st1, if_pos (by unfold Kqg4.maxVertices; omega)])
    refine ifb (b := decide ((1 : Int) ≤ (n : Int))) rfl (fun c1 => ?_) (fun c1 => ?_)
    · have := of_decide_eq_true c1
      exact ⟨_, _, rfl, rfl, _, _, rfl, fun c => absurd (of_decide_eq_true c) (by omega), fun _ => e22⟩
    · exact ⟨_, _, rfl, fun c => absurd c (by decide), fun _ => e22⟩
def R_add_edge : List Int → Kqg4.Request → Prop := fun l q => ∃ a b : Nat, l = [(a : Int), (b : Int)] ∧ q = .addEdge a b
abbrev s_add_edge : Stmt := topS 66
theorem sc_add_edge : FnScope ["desk", "numbers", "graph", "edge"] ["desk", "numbers"] (defScope s_add_edge) := ⟨rfl, rfl, rfl, by decide +kernel, rfl, by decide +kernel, by decide +kernel⟩
theorem d_add_edge (T : Nm K mg) (G : GC K C) (DK : DC0 K DC) (d_want_vertices : Cl P w K mg base (L2.CX P w) 4 "want_vertices" (spWv C CR)) (d_want : Cl P w K mg base (L2.CX P w) 3 "want" (spWant CR)) (d_edge_of : Cl P w K mg base CX0 1 "edge_of" spEdgeOf) (m_with_edge : Mt P w K mg base 3 C "with_edge" (spWith C)) (D : Df K mg "add_edge" s_add_edge ["desk", "numbers"]) : Cl P w K mg base (L2.CX P w) 5 "add_edge" (spDeed C DC CR true R_add_edge) := by
  refine D.clX sc_add_edge (fun vs H Q E h => ?_) (fun f cdv A outer s H vs Q E hr h => ?_)
  · obtain ⟨_, _, _, _, _, rfl, _⟩ := h; rfl
  have tk : Takes (cxOf (L2.CX P w) P w K mg base ["desk", "numbers", "graph", "edge"] "add_edge" (defScope s_add_edge) f cdv A outer s H E) (fun cls d _ H => E cls d H) := takes_of rfl rfl rfl rfl
  refine ⟨_, (pss_cons (ps_set (i := 2) sc_add_edge.nd rfl (Or.inl rfl) (k_fld (K := K) rfl (pv 0) rfl))
        (pss_cons (ps_expr (pe_cx d_want_vertices hr (by decide) rfl tk (pa_cons (pv 2) (pa_cons (pv 1) pa_nil))))
        (pss_cons (ps_expr (pe_cx d_want hr (by decide) rfl tk (pa_cons (pe_cmpR (op_ne) (pe_ix (k_ixL (K := K) rfl) (pv 1) pe_int (fun _ _ => rfl)) (pe_ix (k_ixL (K := K) rfl) (pv 1) pe_int (fun _ _ => rfl)) (nomark _)) (pa_cons (pe_gc rfl T.c_OUT_OF_RANGE) pa_nil))))
        (pss_cons (ps_set (i := 3) sc_add_edge.nd rfl (Or.inl rfl) (pe_c0 d_edge_of hr (by decide) rfl (pa_cons (pe_ix (k_ixL (K := K) rfl) (pv 1) pe_int (fun _ _ => rfl)) (pa_cons (pe_ix (k_ixL (K := K) rfl) (pv 1) pe_int (fun _ _ => rfl)) pa_nil))))
        (pss_cons (ps_expr (pe_cx d_want hr (by decide) rfl tk (pa_cons (pe_cmpR (k_ninD (K := K) rfl (hu65 hr)) (pv 3) (k_fld (K := K) rfl (pv 2) rfl) (by rfl)) (pa_cons (pe_gc rfl T.c_EDGE_THERE) pa_nil))))
        (pss_cons (ps_expr (pe_cx d_want hr (by decide) rfl tk (pa_cons (pe_cmpR (op_lt) (pe_callB (k_len (K := K) rfl) rfl T.n_len (by decide +kernel) (pa_cons (k_fld (K := K) rfl (pv 2) rfl) pa_nil)) (pe_gc rfl T.c_MOST_EDGES) (nomark _)) (pa_cons (pe_gc rfl T.c_FULL) pa_nil))))
        (pss_cons (ps_fld (pv 0) (pe_m1 m_with_edge hr (by decide) (pv 2) (pa_cons (pv 3) pa_nil)) rfl)
        (pss_one (ps_ret (pe_lst (pa_cons (pe_op op_add (pe_callB (k_len (K := K) rfl) rfl T.n_len (by decide +kernel) (pa_cons (k_fld (K := K) rfl (pv 2) rfl) pa_nil)) pe_int) pa_nil))))))))))), ?_⟩
  obtain ⟨da, nv, nums, st, rq, rfl, dk, ln, rr, gok, nz, q1, q2⟩ := h
  obtain ⟨g, rfl⟩ : ∃ g, st = some g := Option.ne_none_iff_exists'.mp (nz rfl)
  have GK := gok g rfl
  obtain ⟨dx, gv, ha, gt⟩ := id dk
  obtain ⟨ga, gdx, el, rfl, h1, h2⟩ := id gt
  have n7 := GK.n7
  have n1 := GK.n1
  have e12 := GK.e12
  have sm : Sm g := ⟨by omega, by omega⟩
  have fin : ∀ r H' res, Same H H' → Kqg4.step (some g) rq = (some g, res) → LI H' r (Kqg4Neutral.fields res) → Fr H r → Q r H' := fun r H' res s hs hl hf => q1 r H' (fun b o _ hb => s _ _ hb) (by rw [hs]; exact DkAt.mono s dk) (by rw [hs]; exact hl) hf (fun z => by cases z)
  have er : ∀ c, Kqg4.step (some g) rq = (some g, .value c) → ErrK CR E H c := q2
  obtain ⟨a, b, rfl, rfl⟩ := rr
  have st1 : Kqg4.step (some g) (.addEdge a b) = if g.vertexCount ≤ a ∨ g.vertexCount ≤ b then (some g, .value (-2)) else if a = b then (some g, .value (-22)) else if Kqg4.hasEdge g a b then (some g, .value (-17)) else if 12 ≤ g.edges.length then (some g, .value (-28)) else (some { g with edges := Kqg4.insertEdge (min a b, max a b) g.edges }, .value (g.edges.length + 1 : Nat)) := rfl
  refine ⟨_, rfl, da, DC, dx, _, _, rfl, ha, DK.cl, DK.nG, lkG, ?_⟩
  refine ⟨_, rfl, _, rfl, _, nv, g, [a, b], rfl, gt, ln, (by show 2 ≤ 1000; decide), fun hall H1 s1 => ?_, fun hall => er (-2) ?_⟩
  · simp only [List.all_cons, List.all_nil, Bool.and_true, Bool.and_eq_true, decide_eq_true_eq] at hall
    rw [if_neg (by omega)] at st1
    obtain ⟨na, rfl, hna⟩ := ln
    refine ⟨_, rfl, na, _, _, .int (a : Int), rfl, rfl, SqL.of (s1 _ _ hna), atI0, ?_⟩
    refine ⟨_, rfl, na, _, _, .int (b : Int), rfl, rfl, SqL.of (s1 _ _ hna), atI1, rfl, ?_⟩
    refine ⟨_, _, rfl, fun c => ?_, fun c => (er (-22) (by
      rw [st1, if_pos (by rw [dec_int] at c; have : (a : Int) = b := by simpa using c
                          omega)])).mono s1⟩
    have ne : a ≠ b := by
      rw [dec_int] at c
      have : ¬ (a : Int) = b := by simpa using c
      omega
    rw [if_neg ne] at st1
    refine ⟨_, rfl, na, _, _, .int (a : Int), rfl, rfl, SqL.of (s1 _ _ hna), atI0, ?_⟩
    refine ⟨_, rfl, na, _, _, .int (b : Int), rfl, rfl, SqL.of (s1 _ _ hna), atI1, ?_⟩
    refine ⟨a, b, rfl, fun r H2 s2 hr2 => ?_⟩
    have s12 := s1.trans s2
    refine ⟨_, rfl, _, rfl, ga, C, gdx, _, _, rfl, s12 _ _ h1, G.cl, G.nE, lkE, ?_⟩
    refine ⟨_, _, hr2.dp, (h2.mono s12).dp, eE_shaped _, eEs_shaped _, ?_⟩
    rw [any_mem]
    refine ⟨_, _, rfl, fun d => ?_, fun d => (er (-17) (by
      rw [st1, if_pos (by rw [has_t]; simpa using d)])).mono s12⟩
    have nm : (min a b, max a b) ∉ g.edges := by simpa using d
    rw [if_neg (by rw [has_t, decide_eq_false nm]; decide)] at st1
    obtain ⟨el', xs, e, hl, hA⟩ := (h2.mono s12).list
    cases e
    have lx := hA.len
    rw [List.length_map] at lx
    refine ⟨_, rfl, ga, C, gdx, _, _, rfl, s12 _ _ h1, G.cl, G.nE, lkE, el, xs, rfl, .inl (SqL.of hl), _, _, rfl, rfl, ?_⟩
    refine ⟨_, _, rfl, fun k => ?_, fun k => (er (-28) (by
      rw [st1, if_pos (by have := of_decide_eq_false k; omega)])).mono s12⟩
    have k2 : g.edges.length < 12 := by have := of_decide_eq_true k; omega
    rw [if_neg (by omega)] at st1
    rw [st1] at q1
    refine ⟨_, rfl, ga, gdx, _, rfl, s12 _ _ h1, lkM (by decide +kernel) (by decide +kernel), ?_⟩
    refine ⟨_, rfl, _, _, g, _, rfl, gt.mono s12, hr2, sm, fun E' v H3 so s3 gt3 => ?_⟩
    have s123 := s12.trans s3
    have od := GK.ord.ord
    have oi := MG.insert_ord od nm
    have ee : E' = Kqg4.insertEdge (min a b, max a b) g.edges := by
      refine MG.ord_eq so.perm ?_ so.ord oi fun x => ?_
      · rw [List.nodup_append]
        exact ⟨MG.ord_nodup od, by simp, fun x hx y hy z => nm (by rw [List.mem_singleton.mp hy] at z; rw [← z]; exact hx)⟩
      · rw [(MG.insert_perm _ _).mem_iff, List.mem_append, List.mem_cons, List.mem_cons]
        constructor
        · rintro (h | h | h)
          · exact .inr h
          · exact .inl h
          · simp at h
        · rintro (h | h)
          · exact .inr (.inl h)
          · exact .inl h
    subst ee
    have hd3 := s123 _ _ ha
    refine ⟨_, rfl, da, DC, dx, _, rfl, hd3, DK.cl, DK.nG, (by show 1 < 1000; decide), ?_⟩
    rw [put_graph]
    have hg4 : upd H3 da (.ins DC dx [("graph", v)]) ga = some (.ins C gdx [("vertex_count", .int (g.vertexCount : Nat)), ("edges", .ref el)]) := by
      rw [upd_ne (ne_of (s123 _ _ h1) hd3 (by intro z; injection z with _ _ z3; cases z3))]; exact s123 _ _ h1
    have hl4 : upd H3 da (.ins DC dx [("graph", v)]) el = some (.lst xs) := by
      rw [upd_ne (ne_of (s3 _ _ hl) hd3 (by intro z; cases z))]; exact s3 _ _ hl
    refine ⟨_, rfl, ga, C, gdx, _, _, rfl, hg4, G.cl, G.nE, lkE, el, xs, rfl, .inl (SqL.of hl4), _, _, rfl, rfl, ?_⟩
    refine ⟨small5' (by show 1 ≤ 16000000; decide), fun p2 hp2 => ?_⟩
    refine q1 _ _ (sb_end s123 hp2) (dk_end hd3 gt3 hp2) ?_ (fr_end s123 hp2) (fun z => by cases z)
    rw [lx]
    exact li [((g.edges.length : Nat) : Int) + 1]
  · simp only [List.all_cons, List.all_nil, Bool.and_true, Bool.and_eq_false_iff, decide_eq_false_iff_not] at hall
    rw [st1, if_pos (by omega)]
def R_remove_edge : List Int → Kqg4.Request → Prop := fun l q => ∃ a b : Nat, l = [(a : Int), (b : Int)] ∧ q = .removeEdge a b
abbrev s_remove_edge : Stmt := topS 67
theorem sc_remove_edge : FnScope ["desk", "numbers", "edge"] ["desk", "numbers"] (defScope s_remove_edge) := ⟨rfl, rfl, rfl, by decide +kernel, rfl, by decide +kernel, by decide +kernel⟩
theorem d_remove_edge (T : Nm K mg) (G : GC K C) (DK : DC0 K DC) (d_want_edge : Cl P w K mg base (L2.CX P w) 5 "want_edge" (spWe C CR)) (m_without_edge : Mt P w K mg base 3 C "without_edge" (spWithoutE C)) (D : Df K mg "remove_edge" s_remove_edge ["desk", "numbers"]) : Cl P w K mg base (L2.CX P w) 6 "remove_edge" (spDeed C DC CR true R_remove_edge) := by
  refine D.clX sc_remove_edge (fun vs H Q E h => ?_) (fun f cdv A outer s H vs Q E hr h => ?_)
  · obtain ⟨_, _, _, _, _, rfl, _⟩ := h; rfl
  have tk : Takes (cxOf (L2.CX P w) P w K mg base ["desk", "numbers", "edge"] "remove_edge" (defScope s_remove_edge) f cdv A outer s H E) (fun cls d _ H => E cls d H) := takes_of rfl rfl rfl rfl
  refine ⟨_, (pss_cons (ps_set (i := 2) sc_remove_edge.nd rfl (Or.inl rfl) (pe_cx d_want_edge hr (by decide) rfl tk (pa_cons (k_fld (K := K) rfl (pv 0) rfl) (pa_cons (pv 1) pa_nil))))
        (pss_cons (ps_fld (pv 0) (pe_m1 m_without_edge hr (by decide) (k_fld (K := K) rfl (pv 0) rfl) (pa_cons (pv 2) pa_nil)) rfl)
        (pss_one (ps_ret (pe_lst (pa_cons (pe_callB (k_len (K := K) rfl) rfl T.n_len (by decide +kernel) (pa_cons (k_fld (K := K) rfl (k_fld (K := K) rfl (pv 0) rfl) rfl) pa_nil)) pa_nil)))))), ?_⟩
  obtain ⟨da, nv, nums, st, rq, rfl, dk, ln, rr, gok, nz, q1, q2⟩ := h
  obtain ⟨g, rfl⟩ : ∃ g, st = some g := Option.ne_none_iff_exists'.mp (nz rfl)
  have GK := gok g rfl
  obtain ⟨dx, gv, ha, gt⟩ := id dk
  obtain ⟨ga, gdx, el, rfl, h1, h2⟩ := id gt
  have n7 := GK.n7
  have n1 := GK.n1
  have e12 := GK.e12
  have sm : Sm g := ⟨by omega, by omega⟩
  have fin : ∀ r H' res, Same H H' → Kqg4.step (some g) rq = (some g, res) → LI H' r (Kqg4Neutral.fields res) → Fr H r → Q r H' := fun r H' res s hs hl hf => q1 r H' (fun b o _ hb => s _ _ hb) (by rw [hs]; exact DkAt.mono s dk) (by rw [hs]; exact hl) hf (fun z => by cases z)
  have er : ∀ c, Kqg4.step (some g) rq = (some g, .value c) → ErrK CR E H c := q2
  obtain ⟨a, b, rfl, rfl⟩ := rr
  have st1 : Kqg4.step (some g) (.removeEdge a b) = if g.vertexCount ≤ a ∨ g.vertexCount ≤ b then (some g, .value (-2)) else if Kqg4.hasEdge g a b = false then (some g, .value (-33)) else (some (Kqg4.withoutEdge g (min a b) (max a b)), .value (g.edges.length - 1 : Nat)) := rfl
  refine ⟨_, rfl, da, DC, dx, _, _, rfl, ha, DK.cl, DK.nG, lkG, ?_⟩
  refine ⟨_, rfl, _, nv, g, a, b, rfl, gt, ln, fun c => er (-2) (by rw [st1, if_pos c]), fun c1 c2 c3 => er (-33) (by rw [st1, if_neg (by omega), if_pos (by rw [has_t]; exact decide_eq_false c3)]), fun c1 c2 c3 r H1 s1 hr1 => ?_⟩
  rw [if_neg (by omega), if_neg (by rw [has_t, decide_eq_true c3]; decide)] at st1
  rw [st1] at q1
  refine ⟨_, rfl, da, DC, dx, _, _, rfl, s1 _ _ ha, DK.cl, DK.nG, lkG, ga, gdx, _, rfl, s1 _ _ h1, lkM (by decide +kernel) (by decide +kernel), ?_⟩
  refine ⟨_, rfl, _, _, g, _, rfl, gt.mono s1, hr1, sm, fun E' v H2 so s2 gt2 => ?_⟩
  have s12 := s1.trans s2
  have ee := sort_eq so (GK.ord.ord.filter _)
  have el2 : E'.length = g.edges.length - 1 := by rw [ee]; exact len_cut (MG.ord_nodup GK.ord.ord) c3
  rw [we_eq] at ee
  have hd3 := s12 _ _ ha
  refine ⟨_, rfl, da, DC, dx, _, rfl, hd3, DK.cl, DK.nG, (by show 1 < 1000; decide), ?_⟩
  rw [put_graph]
  obtain ⟨ga2, gdx2, el4, rfl, g1, g2⟩ := gt2.desk (o := .ins DC dx [("graph", v)]) hd3
  obtain ⟨el5, xs, e, hl, hA⟩ := g2.list
  cases e
  refine ⟨_, rfl, da, DC, dx, _, _, rfl, upd_same, DK.cl, DK.nG, lkG, ga2, C, gdx2, _, _, rfl, g1, G.cl, G.nE, lkE, el4, xs, rfl, .inl (SqL.of hl), ?_⟩
  refine ⟨small5' (by show 1 ≤ 16000000; decide), fun p2 hp2 => ?_⟩
  have gt3 : GAt C H2 (.ref ga2) (Kqg4.withoutEdge g (min a b) (max a b)) := by
    have : (⟨g.vertexCount, E'⟩ : Kqg4.Graph) = Kqg4.withoutEdge g (min a b) (max a b) := by rw [ee]; rfl
    rw [← this]; exact gt2
  refine q1 _ _ (sb_end s12 hp2) (dk_end hd3 gt3 hp2) ?_ (fr_end s12 hp2) (fun z => by cases z)
  rw [hA.len, List.length_map]
  show LI _ _ [((g.edges.length - 1 : Nat) : Int)]
  rw [← el2]
  exact li [((E'.length : Nat) : Int)]
end
end WK

-- part W21
set_option maxRecDepth 100000
set_option maxHeartbeats 4000000
namespace WK
open PySem PySem.Spec PyProof.Rows L2
open MG (GOK)
/-! ## One call -/
/-- at f: a function that keeps sp -/
def AtF (P : Program) (w : World) (K : PySem.W.Frag) (mg : Str → Option Value) (base : Heap) (f : Addr) (sp : Sp) : Prop :=
  ∃ (k : Nat) (fd : FuncData) (ps : List Str), k ≤ 7 ∧ FnOk P w K mg base (L2.CX P w) k f fd ps sp ∧ PySem.W.keepIn K (.ref f) = true ∧ Binds K fd ps []
def tDyn (P : Program) (w : World) (K : PySem.W.Frag) (mg : Str → Option Value) (base : Heap) (i : Nat) (E : L2.St → XK) (t : TA) : TE := fun σ H Q => ∃ (f : Addr) (sp : Sp), σ[i]? = some (some (.ref f)) ∧ AtF P w K mg base f sp ∧ t σ H fun vs H1 => sp vs H1 Q (E σ)
theorem pe_dyn {X : Cx} {P : Program} {w : World} {K : PySem.W.Frag} {mg : Str → Option Value} {base : Heap} {i : Nat} {E : L2.St → XK} {x : Str} {p pos : Pos} {e : Expr} {es : List Expr} {t : TA} (eP : X.prog = P) (ew : X.w = w) (eK : X.K = K) (em : X.mg = mg) (eb : X.base = base)
    (hr : Room 7 X.A) (hN : X.N[i]? = some x) (hv : Vis X.env.scope x) (hx : ∀ σ, PassesAt (L2.CX X.prog X.w) X σ (E σ)) (ha : PA X (e :: es) t)
    (hd : (x == ("__debug__" : Str)) = false := by decide) (hcd : (x == ("__classdict__" : Str)) = false := by decide)
    (he : starEach (e :: es) X.env = (false, eval e X.env) :: starEach es X.env := by rfl) (hpl : (backTo pos (starEach es X.env)).any (·.1) = false := by rfl) :
    PE X (.Call (.Name x p) (e :: es) [] pos) (tDyn P w K mg base i E t) := by
  subst eP ew eK em eb
  refine ⟨fun pins s σ H Q I h => ?_⟩
  obtain ⟨f, sp, hs, ⟨k, fd, ps, hk, F, kp, b⟩, ht⟩ := h
  refine wpAny_Call_Name_kw (thn ((pe_var (pos := p) hN hv hd hcd).run pins s σ H (fun v H1 => v = .ref f ∧ H1 = H) I ⟨.ref f, hs, rfl, rfl⟩) fun u s1 ⟨v, H1, I1, r1, q1⟩ => ?_)
  obtain ⟨rfl, rfl⟩ := q1
  cases r1
  refine PySem.W.callWith_K (h₀ := X.base) I.ok.mod.kin kp (thn (ha.run pos pins s1 σ _ _ I1 ht) fun us s2 ⟨vs, H2, I2, r, q⟩ => ⟨I2.kIn, ?_⟩) he hpl
  exact run_fnS F (hr.mono hk) b (hx σ) I2 r q
def Rr : Nat → List Int → Kqg4.Request → Prop
  | 0 => R_create | 1 => R_add_edge | 2 => R_remove_edge | 3 => R_list_edges | 4 => R_max_degree | 5 => R_tell_counts | 6 => R_perfect_matchings | 7 => R_tell_polynomial
  | 8 => R_tell_squared | 9 => R_tell_real_rooted | 10 => R_evaluate | 11 => R_greatest_root | 12 => R_tell_root_floor | 13 => R_check_root_bound | 14 => R_polynomial_without_vertex
  | 15 => R_polynomial_without_edge | 16 => R_interlaces_without_vertex | 17 => R_complement_counts | 18 => R_complement_formula | 19 => R_tell_paths | 20 => R_path_tree_polynomial
  | 21 => R_tell_matching | 22 => R_tell_multiplicity | 23 => R_summary | _ => fun _ _ => False
def zz : Nat → Bool
  | 0 => false | _ => true
theorem none_is {i : Nat} (h : i ≠ 0) {l : List Int} {q : Kqg4.Request} (r : Rr i l q) : Kqg4.step none q = (none, .value (-11)) := by
  match i, h, r with
  | 1, _, ⟨_, _, _, e⟩ => subst e; rfl
  | 2, _, ⟨_, _, _, e⟩ => subst e; rfl
  | 3, _, ⟨_, e⟩ => subst e; rfl
  | 4, _, ⟨_, e⟩ => subst e; rfl
  | 5, _, ⟨_, e⟩ => subst e; rfl
  | 6, _, ⟨_, e⟩ => subst e; rfl
  | 7, _, ⟨_, e⟩ => subst e; rfl
  | 8, _, ⟨_, e⟩ => subst e; rfl
  | 9, _, ⟨_, e⟩ => subst e; rfl
  | 10, _, ⟨_, _, _, e⟩ => subst e; rfl
  | 11, _, ⟨_, _, e⟩ => subst e; rfl
  | 12, _, ⟨_, _, _, e⟩ => subst e; rfl
  | 13, _, ⟨_, e⟩ => subst e; rfl
  | 14, _, ⟨_, _, e⟩ => subst e; rfl
  | 15, _, ⟨_, _, _, e⟩ => subst e; rfl
  | 16, _, ⟨_, _, e⟩ => subst e; rfl
  | 17, _, ⟨_, e⟩ => subst e; rfl
  | 18, _, ⟨_, e⟩ => subst e; rfl
  | 19, _, ⟨_, _, e⟩ => subst e; rfl
  | 20, _, ⟨_, _, e⟩ => subst e; rfl
  | 21, _, ⟨_, _, _, e⟩ => subst e; rfl
  | 22, _, ⟨_, _, _, e⟩ => subst e; rfl
  | 23, _, ⟨_, e⟩ => subst e; rfl
  | i + 24, _, r => exact r.elim
theorem SB.trans {a : Addr} {H H' H2 : Hp} (h : SB a H H') (s : Same H' H2) : SB a H H2 := fun b o n e => s _ _ (h b o n e)
theorem SB.of {a : Addr} {H H' : Hp} (s : Same H H') : SB a H H' := fun b o _ e => s _ _ e
section
variable {P : Program} {w : World} {K : PySem.W.Frag} {mg : Str → Option Value} {base : Heap} {C CR DC : Addr}
abbrev s_answer : Stmt := topS 93
theorem sc_answer : FnScope ["desk", "call", "numbers", "deed", "e"] ["desk", "call", "numbers"] (defScope s_answer) := ⟨rfl, rfl, rfl, by decide +kernel, rfl, by decide +kernel, by decide +kernel⟩
/-- the deeds in their tuple -/
structure Deeds (P : Program) (w : World) (K : PySem.W.Frag) (mg : Str → Option Value) (base : Heap) (C DC CR : Addr) : Prop where
  ex : ∃ (a : Addr) (fs : List Addr), mg "DEEDS" = some (.ref a) ∧ (∀ H, SqT K H a (fs.map V.ref)) ∧ ∀ i, i < 24 → ∃ f, fs[i]? = some f ∧ AtF P w K mg base f (spDeed C DC CR (zz i) (Rr i))
def spAns (C DC : Addr) : Sp := fun vs H Q _ => ∃ (da : Addr) (nv : V) (i : Nat) (st : Option Kqg4.Graph) (nums : List Int) (rq : Kqg4.Request), vs = [.ref da, .int (i : Nat), nv] ∧ i < 24 ∧ DkAt C DC H da st ∧ LI H nv nums ∧ Rr i nums rq ∧ (∀ g, st = some g → GOK g) ∧
  ∀ r H', SB da H H' → DkAt C DC H' da (Kqg4.step st rq).1 → LI H' r (Kqg4Neutral.fields (Kqg4.step st rq).2) → Fr H r → (st = none → ∀ F, H F ≠ none → Nl H' da F) → Q r H'
theorem takes_none {X : Cx} : Takes X (fun _ _ _ _ => False) := fun u s' ⟨a, B, sI, pins, σ, H, cls, d, e, I, nb, up, sky, na, os, ag, w⟩ => w.elim
theorem d_answer (T : Nm K mg) (G : GC K C) (DK : DC0 K DC) (RCx : RC K mg CR) (DD : Deeds P w K mg base C DC CR) (d_want : Cl P w K mg base (L2.CX P w) 3 "want" (spWant CR)) (D : Df K mg "answer" s_answer ["desk", "call", "numbers"]) : Cl P w K mg base CX0 8 "answer" (spAns C DC) := by
  refine D.cl sc_answer (fun vs H Q E h => ?_) (fun f cdv A outer s H vs Q E hr h => ?_)
  · obtain ⟨_, _, _, _, _, _, rfl, _⟩ := h; rfl
  obtain ⟨ad, fs, mD, sD, fD⟩ := DD.ex
  obtain ⟨wf, wfd, wps, WF, wm, wk, wb⟩ := d_want.ex
  refine ⟨_, (pss_cons (ps_set (i := 3) sc_answer.nd rfl (Or.inl rfl) (pe_ix (k_ixT (K := K) rfl) (pe_gc (v := .ref ad) rfl ⟨_, mD, rfl⟩) (pv 1) (fun _ _ => rfl)))
    (pss_one (ps_try_as (i := 4) (tb := fun W => tSeq (tDrop (tCallS (spWant CR) (WE W) (tCons (tOrV (tOp rEq (tVar 1) (tC (.int 0))) (tOp (fun x y H Q => y = .non ∧ Q (.bl (!decide (x = .non))) H) (tFld K (tVar 0) "graph") (tC .non))) (tCons (tC (.int (-11))) tNil))))
          (tRet (tDyn P w K mg base 3 (WE W) (tCons (tVar 0) (tCons (tVar 2) tNil)))))
        (ts := fun a cls d => tRet (tLst (tCons (tXf a cls d CR "code" (tVar 4)) tNil))) (Wout := fun _ _ _ _ => False) rfl rfl sc_answer.nd rfl rfl ⟨rfl, by decide, Or.inl RCx.mC⟩ takes_none
      (fun W pn xe tk _ => pss_cons (ps_expr (by exact (pe_callS WF (hr.mono (by decide)) rfl wm wk wb (fun σ => passAt tk σ) (by exact (pa_cons (pe_or (pe_cmpR (op_eq) (pv 1) (pe_gc rfl T.c_CREATE) (nomark _)) (pe_one (pe_cmpR (op_notN) (k_fld (K := K) rfl (pv 0) rfl) pe_non (nomark _)))) (pa_cons (pe_gc rfl T.c_NO_GRAPH) pa_nil))))))
        (pss_one (ps_ret (by exact (pe_dyn rfl rfl rfl rfl rfl hr rfl (Or.inl rfl) (fun σ => passAt tk σ) (pa_cons (pv 0) (pa_cons (pv 2) pa_nil)))))))
      (fun a oe cls d pn hz hf => pss_one (ps_ret (pe_lst (by exact (pa_cons (pe_xf RCx.xf RCx.noc hz hf (pv 4)) pa_nil)))))))), ?_⟩
  obtain ⟨da, nv, i, st, nums, rq, rfl, hi, dk, ln, rr, gok, q⟩ := h
  obtain ⟨fi, hfi, at0⟩ := fD i hi
  have hv : (fs.map V.ref)[i]? = some (.ref fi) := by rw [List.getElem?_map, hfi]; rfl
  refine ⟨_, rfl, ad, _, _, _, rfl, rfl, sD H, atI_nat hv, ?_⟩
  have caught : ∀ (σ : L2.St) (c : Int), σ.length = 5 → Kqg4.step st rq = (st, .value c) → ErrK CR (fun cls d H' => wAs K (.ref CR) 4 (fun a cls d => tRet (tLst (tCons (tXf a cls d CR "code" (tVar 4)) tNil))) (fun _ _ _ _ => False) { nx := fun _ H' => Q .non H', rt := Q } cls d σ H') H c := fun σ c hl hs d H' s1 hd => by
    refine ⟨true, RCx.te, fun _ a hna => ?_, fun z => absurd z (by decide)⟩
    refine ⟨.ref a, ?_, rfl, rfl, d, _, _, rfl, hd, lk_here, small5' (by show 1 ≤ 16000000; decide), fun p hp => ?_⟩
    · rw [List.getElem?_set, if_pos rfl, if_pos (by omega)]
    · have s2 := s1.trans (same_upd (o := HO.lst [.int c]) hp)
      refine q _ _ (SB.of s2) ?_ ?_ (.at s1 hp) ?_
      · rw [hs]; exact dk.mono s2
      · rw [hs]; exact li [c]
      · intro hst F _ D dx' gv C' gdx' vc' l h1 h2
        subst hst
        obtain ⟨dx2, hda⟩ := dk
        rw [s2 _ _ hda] at h1
        injection h1 with h1
        injection h1 with _ _ h1
        injection h1 with h1 _
        injection h1 with _ h1
        cases h1
  by_cases c0 : i = 0
  · refine ⟨_, rfl, rfl, _, rfl, ?_⟩
    refine ifb (b := true) (decide_eq_true (by rw [c0]; rfl)) (fun _ => ?_) (fun z => absurd z (by decide))
    refine ⟨_, _, rfl, fun _ => ?_, fun z => absurd z (by decide)⟩
    exact ⟨fi, _, rfl, at0, _, rfl, _, rfl, da, nv, nums, st, rq, rfl, dk, ln, rr, gok, fun z => absurd z (by rw [c0]; decide), q, fun c hs => caught _ c rfl hs⟩
  · refine ⟨_, rfl, rfl, _, rfl, ?_⟩
    refine ifb (b := false) (decide_eq_false fun z => c0 (by injection z; omega)) (fun z => absurd z (by decide)) (fun _ => ?_)
    cases st with
    | none =>
      obtain ⟨dx, ha⟩ := id dk
      refine ⟨_, rfl, da, DC, dx, _, _, rfl, ha, DK.cl, DK.nG, lkG, rfl, ?_⟩
      refine ⟨false, _, rfl, fun z => absurd z (by decide), fun _ => caught _ (-11) rfl (none_is c0 rr)⟩
    | some g =>
      obtain ⟨dx, gv, ha, gt⟩ := id dk
      obtain ⟨ga, gdx, el, rfl, h1, h2⟩ := id gt
      refine ⟨_, rfl, da, DC, dx, _, _, rfl, ha, DK.cl, DK.nG, lkG, rfl, ?_⟩
      refine ⟨true, _, rfl, fun _ => ?_, fun z => absurd z (by decide)⟩
      exact ⟨fi, _, rfl, at0, _, rfl, _, rfl, da, nv, nums, some g, rq, rfl, dk, ln, rr, gok, fun _ z => (by cases z), q, fun c hs => caught _ c rfl hs⟩
end
end WK

-- part W22
set_option maxRecDepth 100000
set_option maxHeartbeats 4000000
namespace WK
open PySem PySem.Spec PyProof.Rows L2
open MG (GOK)
/-! ## All calls -/
def szL : List Int := [1, 2, 2, 0, 0, 0, 0, 0, 0, 0, 2, 1, 2, 0, 1, 2, 1, 0, 0, 1, 1, 2, 2, 0]
inductive Ans : Option Kqg4.Graph → List Int → List Int → Prop
  | nil {st : Option Kqg4.Graph} : Ans st [] []
  | cons {st : Option Kqg4.Graph} {i : Nat} {nums rest out : List Int} {rq : Kqg4.Request} : i < 24 → szL.getD i 0 = (nums.length : Int) → Rr i nums rq → Ans (Kqg4.step st rq).1 rest out →
    Ans st (((i : Nat) : Int) :: (nums ++ rest)) (((Kqg4Neutral.fields (Kqg4.step st rq).2).length : Int) :: (Kqg4Neutral.fields (Kqg4.step st rq).2 ++ out))
theorem step_ok {st : Option Kqg4.Graph} (h : ∀ g, st = some g → GOK g) (rq : Kqg4.Request) : ∀ g, (Kqg4.step st rq).1 = some g → GOK g := by
  intro g hg
  cases rq with
  | create n =>
    have e : Kqg4.step st (.create n) = if n < 1 ∨ Kqg4.maxVertices < n then (st, .value (-22)) else (some ⟨n, []⟩, .value 0) := by cases st <;> rfl
    rw [e] at hg
    split at hg
    · exact h g hg
    · rename_i c
      unfold Kqg4.maxVertices at c
      have hg2 : (⟨n, []⟩ : Kqg4.Graph) = g := Option.some.inj hg
      rw [← hg2]
      exact GOK.nil (by omega) (by omega)
  | addEdge a b =>
    cases st with
    | none => cases hg
    | some g0 =>
      have e : Kqg4.step (some g0) (.addEdge a b) = if g0.vertexCount ≤ a ∨ g0.vertexCount ≤ b then (some g0, .value (-2)) else if a = b then (some g0, .value (-22)) else if Kqg4.hasEdge g0 a b then (some g0, .value (-17)) else if 12 ≤ g0.edges.length then (some g0, .value (-28)) else (some { g0 with edges := Kqg4.insertEdge (min a b, max a b) g0.edges }, .value (g0.edges.length + 1 : Nat)) := rfl
      rw [e] at hg
      split at hg
      · exact h g hg
      · split at hg
        · exact h g hg
        · split at hg
          · exact h g hg
          · split at hg
            · exact h g hg
            · rename_i c1 c2 c3 c4
              have hg2 : ({ g0 with edges := Kqg4.insertEdge (min a b, max a b) g0.edges } : Kqg4.Graph) = g := Option.some.inj hg
              rw [← hg2]
              have nm : (min a b, max a b) ∉ g0.edges := by rw [has_t] at c3; simpa using c3
              exact (h g0 rfl).add (e := (min a b, max a b)) ⟨by show min a b < max a b; omega, by show max a b < g0.vertexCount; omega⟩ nm (by omega)
  | removeEdge a b =>
    cases st with
    | none => cases hg
    | some g0 =>
      have e : Kqg4.step (some g0) (.removeEdge a b) = if g0.vertexCount ≤ a ∨ g0.vertexCount ≤ b then (some g0, .value (-2)) else if Kqg4.hasEdge g0 a b = false then (some g0, .value (-33)) else (some (Kqg4.withoutEdge g0 (min a b) (max a b)), .value (g0.edges.length - 1 : Nat)) := rfl
      rw [e] at hg
      split at hg
      · exact h g hg
      · split at hg
        · exact h g hg
        · have hg2 : Kqg4.withoutEdge g0 (min a b) (max a b) = g := Option.some.inj hg
          rw [← hg2]
          exact (h g0 rfl).cut _
  | _ =>
    cases st with
    | none => cases hg
    | some g0 => exact h g hg
theorem keepF {C DC a F : Addr} {H : Hp} {done : List Int} {o : HO} (hF : H F = some (.lst (done.map V.int))) : ∀ {st : Option Kqg4.Graph}, DkAt C DC H a st → (done ≠ [] ∨ Nl H a F) → DkAt C DC (upd H F o) a st
  | none, ⟨dx, h⟩, _ => ⟨dx, by rw [upd_ne (ne_of h hF (by intro z; cases z))]; exact h⟩
  | some g, ⟨dx, gv, h, ga, gdx, l, e, h1, h2⟩, hn => by
    subst e
    obtain ⟨l', vs, e, hl, hA⟩ := h2.list
    cases e
    have nl : l ≠ F := by
      rcases hn with hn | hn
      · intro z
        subst z
        rw [hF] at hl
        injection hl with hl
        injection hl with hl
        subst hl
        cases done with
        | nil => exact hn rfl
        | cons d ds =>
          cases hE : g.edges with
          | nil => rw [hE] at hA; cases hA
          | cons e es =>
            rw [hE] at hA
            cases hA with
            | cons h3 h4 => cases h3
      · exact hn _ _ _ _ _ _ _ h h1
    refine ⟨dx, _, by rw [upd_ne (ne_of h hF (by intro z; cases z))]; exact h, ga, gdx, l, rfl, by rw [upd_ne (ne_of h1 hF (by intro z; cases z))]; exact h1, .lst (by rw [upd_ne nl]; exact hl) ((hA.hideE hF).mono same_hu)⟩
theorem cut_is {ns nums rest : List Int} {at_ : Nat} {i : Int} (h : ns.drop at_ = i :: (nums ++ rest)) : cutV (ns.map V.int) (some ((at_ : Int) + 1)) (some ((at_ : Int) + 1 + (nums.length : Int))) = nums.map V.int := by
  have hl : ns.length - at_ = nums.length + rest.length + 1 := by
    have := congrArg List.length h
    rw [List.length_drop, List.length_cons, List.length_append] at this
    exact this
  have e1 : (at_ : Int) + 1 = ((at_ + 1 : Nat) : Int) := by omega
  have e2 : (at_ : Int) + 1 + (nums.length : Int) = ((at_ + 1 + nums.length : Nat) : Int) := by omega
  unfold cutV
  rw [e2, e1, HT.sIx_nat, HT.sIx_nat, List.length_map]
  have m1 : min (at_ + 1) ns.length = at_ + 1 := by omega
  have m2 : min (at_ + 1 + nums.length) ns.length = at_ + 1 + nums.length := by omega
  rw [m1, m2, ← List.map_drop, ← List.map_take]
  congr 1
  have : ns.drop (at_ + 1) = nums ++ rest := by
    rw [← List.drop_drop, h]; rfl
  rw [this, Nat.add_sub_cancel_left, List.take_left]
section
variable {P : Program} {w : World} {K : PySem.W.Frag} {mg : Str → Option Value} {base : Heap} {C CR DC : Addr}
abbrev s_Desk___init__ : Stmt := inClass (topS 57) 0
theorem sc_Desk___init__ : FnScope ["self"] ["self"] (defScope s_Desk___init__) := ⟨rfl, rfl, rfl, by decide +kernel, rfl, by decide +kernel, by decide +kernel⟩
def spDInit (DC : Addr) : Sp := fun vs H Q _ => ∃ p dx : Addr, vs = [.ref p] ∧ H p = some (.ins DC dx []) ∧ Q .non (upd H p (.ins DC dx [("graph", .non)]))
theorem ok_DInit (T : Nm K mg) (DK : DC0 K DC) {f : Addr} {fd : FuncData} (F : Fun K "__init__" "Desk.__init__" s_Desk___init__ f fd) : FnOk P w K mg base CX0 1 f fd ["self"] (spDInit DC) := by
  refine F.ok sc_Desk___init__ (fun vs H Q E h => ?_) (fun cdv A outer s H vs Q E hr h => ?_)
  · obtain ⟨_, _, rfl, _⟩ := h; rfl
  refine ⟨_, (pss_one (ps_fld (pv 0) pe_non rfl)), ?_⟩
  obtain ⟨p, dx, rfl, hp, q⟩ := h
  exact ⟨_, rfl, p, DC, dx, [], rfl, hp, DK.cl, DK.nG, (by show 0 < 1000; decide), q⟩
abbrev s_answers : Stmt := topS 94
theorem sc_answers : FnScope ["calls", "desk", "found", "at", "behind", "one"] ["calls"] (defScope s_answers) := ⟨rfl, rfl, rfl, by decide +kernel, rfl, by decide +kernel, by decide +kernel⟩
def spAll (K : PySem.W.Frag) : Sp := fun vs H Q _ => ∃ (a : Addr) (l out : List Int), vs = [.ref a] ∧ SqL K H a (l.map V.int) ∧ Ans none l out ∧ out.length ≤ 10000000 ∧ ∀ r H', Same H H' → LI H' r out → Q r H'
structure Szs (K : PySem.W.Frag) (mg : Str → Option Value) : Prop where
  ex : ∃ a : Addr, mg "SIZES" = some (.ref a) ∧ ∀ H, SqT K H a (szL.map V.int)
theorem ok_answers (T : Nm K mg) (G : GC K C) (DK : DC0 K DC) (SZ : Szs K mg) (mk_Desk : Mk1 P w K mg base 1 "Desk" DC (spDInit DC)) (d_answer : Cl P w K mg base CX0 8 "answer" (spAns C DC)) {f : Addr} {fd : FuncData} (F : Fun K "answers" "answers" s_answers f fd) : FnOk P w K mg base CX0 9 f fd ["calls"] (spAll K) := by
  refine F.ok sc_answers (fun vs H Q E h => ?_) (fun cdv A outer s H vs Q E hr h => ?_)
  · obtain ⟨_, _, _, rfl, _⟩ := h; rfl
  obtain ⟨sa, mS, sS⟩ := SZ.ex
  have cS : ∃ u, mg "SIZES" = some u ∧ RelV (.ref sa) u := ⟨_, mS, rfl⟩
  refine ⟨_, (pss_cons (ps_set (i := 1) sc_answers.nd rfl (Or.inl rfl) (pe_g0 mk_Desk hr (by decide) rfl))
        (pss_cons (ps_set (i := 2) sc_answers.nd rfl (Or.inl rfl) (pe_lst pa_nil))
        (pss_cons (ps_set (i := 3) sc_answers.nd rfl (Or.inl rfl) pe_int)
        (pss_cons (ps_while PassesOwn.never (pt_cmpR (op_lt) (pv 3) (pe_callB (k_len (K := K) rfl) rfl T.n_len (by decide +kernel) (pa_cons (pv 0) pa_nil)) (nomark _)) (pss_cons (ps_set (i := 4) sc_answers.nd rfl (Or.inl rfl) (pe_op op_add (pe_op op_add (pv 3) pe_int) (pe_ix (k_ixT (K := K) rfl) (pe_gc rfl cS) (pe_ix (k_ixL (K := K) rfl) (pv 0) (pv 3) (fun _ _ => rfl)) (fun _ _ => rfl))))
        (pss_cons (ps_set (i := 5) sc_answers.nd rfl (Or.inl rfl) (pe_c0 d_answer hr (by decide) rfl (pa_cons (pv 1) (pa_cons (pe_ix (k_ixL (K := K) rfl) (pv 0) (pv 3) (fun _ _ => rfl)) (pa_cons (pe_slice sl_list (pv 0) (po_some (pe_op op_add (pv 3) pe_int)) (po_some (pv 4))) pa_nil)))))
        (pss_cons (ps_expr (pe_bm PySem.F.plainAttrs_list PySem.F.slot_list_append PySem.F.type_list_append mt_append (pv 2) (pa_cons (pe_callB (k_len (K := K) rfl) rfl T.n_len (by decide +kernel) (pa_cons (pv 5) pa_nil)) pa_nil)))
        (pss_cons (ps_expr (pe_bm PySem.F.plainAttrs_list PySem.F.slot_list_extend PySem.F.type_list_extend mt_extend (pv 2) (pa_cons (pv 5) pa_nil)))
        (pss_one (ps_set (i := 3) sc_answers.nd rfl (Or.inl rfl) (pv 4))))))))
        (pss_one (ps_ret (pv 2))))))), ?_⟩
  obtain ⟨a, l, OUT, rfl, hl, an, lo, q⟩ := h
  refine fun da dx n1 n2 n3 => ⟨da, dx, rfl, upd_same, rfl, ?_⟩
  have s1 : Same H (upd (upd (upd H dx (.own da)) da (.ins DC dx [])) da (.ins DC dx [("graph", .non)])) := fun b o hb => by
    rw [upd_ne (ne_of_none hb n1), upd_ne (ne_of_none hb n1), upd_ne (ne_of_none hb n2)]; exact hb
  refine ⟨small5' (by show 0 ≤ 16000000; decide), fun F hF => ?_⟩
  have s2 := s1.trans (same_upd (o := HO.lst []) hF)
  have nFa : F ≠ da := fun z => by rw [z, upd_same] at hF; cases hF
  refine ⟨fun m σ H2 => ∃ (at_ : Nat) (st : Option Kqg4.Graph) (out done : List Int) (w4 w5 : Option V), m = l.length - at_ ∧ σ = [some (.ref a), some (.ref da), some (.ref F), some (.int (at_ : Nat)), w4, w5] ∧ at_ ≤ l.length ∧ Ans st (l.drop at_) out ∧ done ++ out = OUT ∧ Same H H2 ∧ H2 F = some (.lst (done.map V.int)) ∧ DkAt C DC H2 da st ∧ (∀ g, st = some g → GOK g) ∧ (done = [] → st = none), ⟨_, 0, none, OUT, [], none, none, rfl, rfl, Nat.zero_le _, an, rfl, s2, upd_same, ⟨dx, ?_⟩, (fun g hg => by cases hg), fun _ => rfl⟩, ?_⟩
  · rw [upd_ne (Ne.symm nFa), upd_same]
  rintro m σ H2 ⟨at_, st, out, done, w4, w5, rfl, rfl, hat, an2, ho, s3, hF2, dk, gok, dn⟩
  have hl2 := Same.seq s3 hl
  refine ⟨_, rfl, _, rfl, a, _, rfl, .inl hl2, _, _, rfl, rfl, _, rfl, ?_⟩
  refine ifb (b := decide (at_ < l.length)) (decide_eq_decide.mpr (by rw [List.length_map]; omega)) (fun c => ?_) (fun c => ?_)
  · have c2 := of_decide_eq_true c
    refine ⟨fun σ' H' => ∃ m', m' < l.length - at_ ∧ ∃ (at_ : Nat) (st : Option Kqg4.Graph) (out done : List Int) (w4 w5 : Option V), m' = l.length - at_ ∧ σ' = [some (.ref a), some (.ref da), some (.ref F), some (.int (at_ : Nat)), w4, w5] ∧ at_ ≤ l.length ∧ Ans st (l.drop at_) out ∧ done ++ out = OUT ∧ Same H H' ∧ H' F = some (.lst (done.map V.int)) ∧ DkAt C DC H' da st ∧ (∀ g, st = some g → GOK g) ∧ (done = [] → st = none), fun _ _ h => h, ?_⟩
    generalize hdr : l.drop at_ = rest0 at an2
    cases an2 with
    | nil =>
      have := congrArg List.length hdr
      rw [List.length_drop] at this
      simp at this
      omega
    | @cons _ i nums rest out2 rq hi hsz rr an3 =>
      have hget : l.getD at_ 0 = (i : Int) := by
        have e : l.drop at_ = l[at_] :: l.drop (at_ + 1) := List.drop_eq_getElem_cons c2
        rw [e] at hdr
        injection hdr with hdr _
        rw [List.getD_eq_getElem?_getD, List.getElem?_eq_getElem c2]
        exact hdr
      have hdr2 : l.drop (at_ + 1 + nums.length) = rest := by
        rw [← List.drop_drop, ← List.drop_drop, hdr]
        show (nums ++ rest).drop nums.length = rest
        rw [List.drop_left]
      have hln : at_ + 1 + nums.length ≤ l.length := by
        have := congrArg List.length hdr
        rw [List.length_drop, List.length_cons, List.length_append] at this
        omega
      have hca : atI (l.map V.int) ((at_ : Nat) : Int) = some (.int (i : Int)) := by rw [int_at c2, hget]
      have hsi : atI (szL.map V.int) ((i : Nat) : Int) = some (.int (nums.length : Int)) := by rw [int_at (l := szL) (by show i < 24; exact hi), hsz]
      refine ⟨_, rfl, _, _, rfl, rfl, _, rfl, _, rfl, a, _, _, _, rfl, rfl, hl2, hca, sa, _, _, _, rfl, rfl, sS H2, hsi, _, _, rfl, rfl, ?_⟩
      refine ⟨_, rfl, _, rfl, _, rfl, a, _, _, _, rfl, rfl, hl2, hca, ?_⟩
      refine ⟨_, rfl, _, rfl, _, _, rfl, rfl, _, rfl, _, rfl, _, rfl, a, _, rfl, hl2, fun p hp => ?_⟩
      have s4 := same_upd (o := HO.lst (cutV (l.map V.int) (some (((at_ : Nat) : Int) + 1)) (some (((at_ : Nat) : Int) + 1 + (nums.length : Int))))) hp
      refine ⟨da, _, i, st, nums, rq, rfl, hi, dk.mono s4, ⟨p, rfl, by rw [upd_same, cut_is hdr]⟩, rr, gok, fun r H4 sb dk4 hr4 fr nl => ?_⟩
      have nFp : F ≠ p := ne_of_none hF2 hp
      have hF4 := sb _ _ nFa (s4 _ _ hF2)
      obtain ⟨b, rfl, hb⟩ := hr4
      obtain ⟨b', eb, hbn⟩ := fr
      cases eb
      have nbF : b ≠ F := fun z => by rw [z, s4 _ _ hF2] at hbn; cases hbn
      have sH4 : Same H H4 := fun x o hx => sb _ _ (ne_of_none hx n1) (s4 _ _ (s3 _ _ hx))
      have lo2 : done.length + (1 + ((Kqg4Neutral.fields (Kqg4.step st rq).2).length + out2.length)) = OUT.length := by
        rw [← ho, List.length_append, List.length_cons, List.length_append]; omega
      have hn4 : done ≠ [] ∨ Nl H4 da F := by
        by_cases z : done = []
        · exact .inr (nl (dn z) F (by rw [s4 _ _ hF2]; intro z; cases z))
        · exact .inl z
      generalize hfd : Kqg4Neutral.fields (Kqg4.step st rq).2 = fd at *
      refine ⟨_, rfl, .inl ⟨rfl, _, SqL.of hF4⟩, ?_⟩
      refine ⟨_, rfl, b, _, rfl, .inl (SqL.of hb), F, _, _, rfl, rfl, hF4, small5 (by rw [List.length_map]; omega), ?_⟩
      refine ⟨_, rfl, .inl ⟨rfl, _, SqL.of upd_same⟩, ?_⟩
      refine ⟨_, rfl, F, b, _, _, rfl, rfl, upd_same, by rw [upd_ne nbF]; exact hb, small5' (by rw [List.length_append, List.length_map, List.length_map]; show _ + 1 + _ ≤ _; omega), ?_⟩
      refine ⟨_, rfl, _, by omega, at_ + 1 + nums.length, (Kqg4.step st rq).1, out2, done ++ ((fd.length : Int) :: fd), some (.int (((at_ : Nat) : Int) + 1 + (nums.length : Int))), some (.ref b), rfl, ?_, hln, ?_, ?_, ?_, ?_, ?_, step_ok gok rq, fun z => ?_⟩
      · have e : ((at_ : Nat) : Int) + 1 + (nums.length : Int) = ((at_ + 1 + nums.length : Nat) : Int) := by omega
        rw [e]; rfl
      · rw [hdr2]; exact an3
      · rw [← ho, List.append_assoc]; rfl
      · intro x o hx
        have nx : x ≠ F := fun z => by
          rw [z] at hx
          rw [s1 _ _ hx] at hF
          cases hF
        rw [upd_ne nx, upd_ne nx]; exact sH4 _ _ hx
      · rw [upd_same, List.map_append, List.map_cons, List.append_assoc, List.length_map]; rfl
      · have k1 := keepF (o := HO.lst (done.map V.int ++ [.int ((fd.map V.int).length : Int)])) hF4 dk4 hn4
        have e : done.map V.int ++ [V.int ((fd.map V.int).length : Int)] = (done ++ [((fd.map V.int).length : Int)]).map V.int := by rw [List.map_append]; rfl
        refine keepF (done := done ++ [((fd.map V.int).length : Int)]) (by rw [upd_same, e]) k1 (.inl (by simp))
      · simp at z
  · have c2 := of_decide_eq_false c
    have : l.drop at_ = [] := List.drop_eq_nil_of_le (by omega)
    rw [this] at an2
    cases an2
    rw [List.append_nil] at ho
    subst ho
    exact ⟨_, rfl, q _ _ s3 ⟨F, rfl, hF2⟩⟩
end
end WK

-- part W23
set_option maxRecDepth 100000
set_option maxHeartbeats 4000000
namespace WK
open PySem PySem.Spec PyProof.Rows L2
/-! ## The list of calls -/
theorem shape_is {p : Int} {n k : Nat} (h : PyKqg4.shape p = some (n, k)) : ∃ i : Nat, i < 24 ∧ p = (i : Int) ∧ szL.getD i 0 = (n : Int) ∧ k = 0 := by
  unfold PyKqg4.shape at h
  by_cases c : 0 ≤ p ∧ p < 24
  · obtain ⟨i, rfl⟩ := Int.eq_ofNat_of_zero_le c.1
    have hi : i < 24 := by omega
    have key : ∀ i : Nat, i < 24 → ∀ r, (if ((i : Nat) : Int) = 0 then some (1, 0) else if ((i : Nat) : Int) = 1 then some (2, 0) else if ((i : Nat) : Int) = 2 then some (2, 0) else if ((i : Nat) : Int) = 3 then some (0, 0) else if ((i : Nat) : Int) = 4 then some (0, 0) else if ((i : Nat) : Int) = 5 then some (0, 0) else if ((i : Nat) : Int) = 6 then some (0, 0) else if ((i : Nat) : Int) = 7 then some (0, 0) else if ((i : Nat) : Int) = 8 then some (0, 0) else if ((i : Nat) : Int) = 9 then some (0, 0) else if ((i : Nat) : Int) = 10 then some (2, 0) else if ((i : Nat) : Int) = 11 then some (1, 0) else if ((i : Nat) : Int) = 12 then some (2, 0) else if ((i : Nat) : Int) = 13 then some (0, 0) else if ((i : Nat) : Int) = 14 then some (1, 0) else if ((i : Nat) : Int) = 15 then some (2, 0) else if ((i : Nat) : Int) = 16 then some (1, 0) else if ((i : Nat) : Int) = 17 then some (0, 0) else if ((i : Nat) : Int) = 18 then some (0, 0) else if ((i : Nat) : Int) = 19 then some (1, 0) else if ((i : Nat) : Int) = 20 then some (1, 0) else if ((i : Nat) : Int) = 21 then some (2, 0) else if ((i : Nat) : Int) = 22 then some (2, 0) else if ((i : Nat) : Int) = 23 then some (0, 0) else none) = some r → szL.getD i 0 = ((r : Nat × Nat).1 : Int) ∧ r.2 = 0 := by
      intro i hi r hr
      have d : ∀ i : Nat, i < 24 → (if ((i : Nat) : Int) = 0 then some (1, 0) else if ((i : Nat) : Int) = 1 then some (2, 0) else if ((i : Nat) : Int) = 2 then some (2, 0) else if ((i : Nat) : Int) = 3 then some (0, 0) else if ((i : Nat) : Int) = 4 then some (0, 0) else if ((i : Nat) : Int) = 5 then some (0, 0) else if ((i : Nat) : Int) = 6 then some (0, 0) else if ((i : Nat) : Int) = 7 then some (0, 0) else if ((i : Nat) : Int) = 8 then some (0, 0) else if ((i : Nat) : Int) = 9 then some (0, 0) else if ((i : Nat) : Int) = 10 then some (2, 0) else if ((i : Nat) : Int) = 11 then some (1, 0) else if ((i : Nat) : Int) = 12 then some (2, 0) else if ((i : Nat) : Int) = 13 then some (0, 0) else if ((i : Nat) : Int) = 14 then some (1, 0) else if ((i : Nat) : Int) = 15 then some (2, 0) else if ((i : Nat) : Int) = 16 then some (1, 0) else if ((i : Nat) : Int) = 17 then some (0, 0) else if ((i : Nat) : Int) = 18 then some (0, 0) else if ((i : Nat) : Int) = 19 then some (1, 0) else if ((i : Nat) : Int) = 20 then some (1, 0) else if ((i : Nat) : Int) = 21 then some (2, 0) else if ((i : Nat) : Int) = 22 then some (2, 0) else if ((i : Nat) : Int) = 23 then some (0, 0) else none) = some ((szL.getD i 0).toNat, 0) ∧ (((szL.getD i 0).toNat : Nat) : Int) = szL.getD i 0 := by decide +kernel
      obtain ⟨d1, d2⟩ := d i hi
      rw [d1] at hr
      have := Option.some.inj hr
      subst this
      exact ⟨d2.symm, rfl⟩
    obtain ⟨k1, k2⟩ := key i hi _ h
    exact ⟨i, hi, rfl, k1, k2⟩
  · exfalso
    repeat (rw [if_neg (by omega)] at h)
    cases h
theorem nat_cast {a : Int} (h : Kqg4Neutral.nat32 a = true) : ((Kqg4Neutral.nat a : Nat) : Int) = a := by
  unfold Kqg4Neutral.nat32 at h
  simp only [Bool.and_eq_true, decide_eq_true_eq] at h
  exact Int.toNat_of_nonneg h.1
/-- what a call asks -/
def Asks (i : Nat) (nums : List Int) : Prop := ∃ rq, Rr i nums rq ∧ Kqg4Neutral.requestOf [((i : Nat) : Int) :: nums] = some rq ∧ PyKqg4.whole [((i : Nat) : Int) :: nums] = [((i : Nat) : Int) :: nums]
theorem len0 {l : List Int} (h : (0 : Int) = (l.length : Int)) : l = [] := List.eq_nil_of_length_eq_zero (by omega)
theorem len1 {l : List Int} (h : (1 : Int) = (l.length : Int)) : ∃ a, l = [a] := by
  match l, h with
  | [a], _ => exact ⟨a, rfl⟩
  | [], h => simp at h
  | _ :: _ :: _, h => simp at h; omega
theorem len2 {l : List Int} (h : (2 : Int) = (l.length : Int)) : ∃ a b, l = [a, b] := by
  match l, h with
  | [a, b], _ => exact ⟨a, b, rfl⟩
  | [], h => simp at h
  | [_], h => simp at h
  | _ :: _ :: _ :: _, h => simp at h; omega
theorem whole_len {i : Nat} {nums : List Int} (hi : i < 24) (hl : szL.getD i 0 = (nums.length : Int)) : PyKqg4.whole [((i : Nat) : Int) :: nums] = [((i : Nat) : Int) :: nums] := by
  match i, hi, hl with
  | 0, _, h => obtain ⟨a, rfl⟩ := len1 h; rfl
  | 1, _, h => obtain ⟨a, b, rfl⟩ := len2 h; rfl
  | 2, _, h => obtain ⟨a, b, rfl⟩ := len2 h; rfl
  | 3, _, h => obtain rfl := len0 h; rfl
  | 4, _, h => obtain rfl := len0 h; rfl
  | 5, _, h => obtain rfl := len0 h; rfl
  | 6, _, h => obtain rfl := len0 h; rfl
  | 7, _, h => obtain rfl := len0 h; rfl
  | 8, _, h => obtain rfl := len0 h; rfl
  | 9, _, h => obtain rfl := len0 h; rfl
  | 10, _, h => obtain ⟨a, b, rfl⟩ := len2 h; rfl
  | 11, _, h => obtain ⟨a, rfl⟩ := len1 h; rfl
  | 12, _, h => obtain ⟨a, b, rfl⟩ := len2 h; rfl
  | 13, _, h => obtain rfl := len0 h; rfl
  | 14, _, h => obtain ⟨a, rfl⟩ := len1 h; rfl
  | 15, _, h => obtain ⟨a, b, rfl⟩ := len2 h; rfl
  | 16, _, h => obtain ⟨a, rfl⟩ := len1 h; rfl
  | 17, _, h => obtain rfl := len0 h; rfl
  | 18, _, h => obtain rfl := len0 h; rfl
  | 19, _, h => obtain ⟨a, rfl⟩ := len1 h; rfl
  | 20, _, h => obtain ⟨a, rfl⟩ := len1 h; rfl
  | 21, _, h => obtain ⟨a, b, rfl⟩ := len2 h; rfl
  | 22, _, h => obtain ⟨a, b, rfl⟩ := len2 h; rfl
  | 23, _, h => obtain rfl := len0 h; rfl
  | i + 24, hi, _ => exact absurd hi (by omega)
theorem asks_of {i : Nat} {nums : List Int} (hi : i < 24) (hl : szL.getD i 0 = (nums.length : Int)) (ha : Kqg4Neutral.asked1 [((i : Nat) : Int) :: nums] = true) : ∃ rq, Rr i nums rq ∧ Kqg4Neutral.requestOf [((i : Nat) : Int) :: nums] = some rq := by
  have two : ∀ {p q : Bool}, (p && q) = true → p = true ∧ q = true := fun h => Bool.and_eq_true_iff.mp h
  match i, hi, hl, ha with
  | 0, _, h, ha =>
    obtain ⟨a, rfl⟩ := len1 h
    exact ⟨_, ⟨Kqg4Neutral.nat a, by rw [nat_cast ha], rfl⟩, rfl⟩
  | 1, _, h, ha =>
    obtain ⟨a, b, rfl⟩ := len2 h
    obtain ⟨h1, h2⟩ := two ha
    exact ⟨_, ⟨Kqg4Neutral.nat a, Kqg4Neutral.nat b, by rw [nat_cast h1, nat_cast h2], rfl⟩, rfl⟩
  | 2, _, h, ha =>
    obtain ⟨a, b, rfl⟩ := len2 h
    obtain ⟨h1, h2⟩ := two ha
    exact ⟨_, ⟨Kqg4Neutral.nat a, Kqg4Neutral.nat b, by rw [nat_cast h1, nat_cast h2], rfl⟩, rfl⟩
  | 3, _, h, _ => obtain rfl := len0 h; exact ⟨_, ⟨rfl, rfl⟩, rfl⟩
  | 4, _, h, _ => obtain rfl := len0 h; exact ⟨_, ⟨rfl, rfl⟩, rfl⟩
  | 5, _, h, _ => obtain rfl := len0 h; exact ⟨_, ⟨rfl, rfl⟩, rfl⟩
  | 6, _, h, _ => obtain rfl := len0 h; exact ⟨_, ⟨rfl, rfl⟩, rfl⟩
  | 7, _, h, _ => obtain rfl := len0 h; exact ⟨_, ⟨rfl, rfl⟩, rfl⟩
  | 8, _, h, _ => obtain rfl := len0 h; exact ⟨_, ⟨rfl, rfl⟩, rfl⟩
  | 9, _, h, _ => obtain rfl := len0 h; exact ⟨_, ⟨rfl, rfl⟩, rfl⟩
  | 10, _, h, ha =>
    obtain ⟨a, b, rfl⟩ := len2 h
    obtain ⟨h1, h2⟩ := two ha
    exact ⟨_, ⟨a, Kqg4Neutral.nat b, by rw [nat_cast h2], rfl⟩, rfl⟩
  | 11, _, h, ha =>
    obtain ⟨a, rfl⟩ := len1 h
    exact ⟨_, ⟨Kqg4Neutral.nat a, by rw [nat_cast ha], rfl⟩, rfl⟩
  | 12, _, h, ha =>
    obtain ⟨a, b, rfl⟩ := len2 h
    obtain ⟨h1, h2⟩ := two ha
    exact ⟨_, ⟨Kqg4Neutral.nat a, Kqg4Neutral.nat b, by rw [nat_cast h1, nat_cast h2], rfl⟩, rfl⟩
  | 13, _, h, _ => obtain rfl := len0 h; exact ⟨_, ⟨rfl, rfl⟩, rfl⟩
  | 14, _, h, ha =>
    obtain ⟨a, rfl⟩ := len1 h
    exact ⟨_, ⟨Kqg4Neutral.nat a, by rw [nat_cast ha], rfl⟩, rfl⟩
  | 15, _, h, ha =>
    obtain ⟨a, b, rfl⟩ := len2 h
    obtain ⟨h1, h2⟩ := two ha
    exact ⟨_, ⟨Kqg4Neutral.nat a, Kqg4Neutral.nat b, by rw [nat_cast h1, nat_cast h2], rfl⟩, rfl⟩
  | 16, _, h, ha =>
    obtain ⟨a, rfl⟩ := len1 h
    exact ⟨_, ⟨Kqg4Neutral.nat a, by rw [nat_cast ha], rfl⟩, rfl⟩
  | 17, _, h, _ => obtain rfl := len0 h; exact ⟨_, ⟨rfl, rfl⟩, rfl⟩
  | 18, _, h, _ => obtain rfl := len0 h; exact ⟨_, ⟨rfl, rfl⟩, rfl⟩
  | 19, _, h, ha =>
    obtain ⟨a, rfl⟩ := len1 h
    exact ⟨_, ⟨Kqg4Neutral.nat a, by rw [nat_cast ha], rfl⟩, rfl⟩
  | 20, _, h, ha =>
    obtain ⟨a, rfl⟩ := len1 h
    exact ⟨_, ⟨Kqg4Neutral.nat a, by rw [nat_cast ha], rfl⟩, rfl⟩
  | 21, _, h, ha =>
    obtain ⟨a, b, rfl⟩ := len2 h
    obtain ⟨h1, h2⟩ := two ha
    exact ⟨_, ⟨Kqg4Neutral.nat a, Kqg4Neutral.nat b, by rw [nat_cast h1, nat_cast h2], rfl⟩, rfl⟩
  | 22, _, h, ha =>
    obtain ⟨a, b, rfl⟩ := len2 h
    obtain ⟨h1, h2⟩ := two ha
    exact ⟨_, ⟨a, Kqg4Neutral.nat b, by rw [nat_cast h2], rfl⟩, rfl⟩
  | 23, _, h, _ => obtain rfl := len0 h; exact ⟨_, ⟨rfl, rfl⟩, rfl⟩
  | i + 24, hi, _, _ => exact absurd hi (by omega)
theorem parse : ∀ (fuel : Nat) (l : List Int) (raw : List (List (List Int))) (st : Option Kqg4.Graph), PyFlat.calls PyKqg4.shape fuel l = some raw → (∀ c, c ∈ raw.map PyKqg4.whole → Kqg4Neutral.asked1 c = true) →
    Ans st l (PyFlat.told (PyFlat.played Kqg4Neutral.step st (raw.map PyKqg4.whole)))
  | fuel, [], raw, st, h, _ => by
    have : raw = [] := by cases fuel <;> exact (Option.some.inj h).symm
    subst this
    exact .nil
  | 0, p :: r, raw, st, h, _ => by cases h
  | fuel + 1, p :: r, raw, st, h, ha => by
    unfold PyFlat.calls at h
    cases hc : PyFlat.call PyKqg4.shape (p :: r) with
    | none => rw [hc] at h; cases h
    | some ct =>
      obtain ⟨c, t⟩ := ct
      rw [hc] at h
      cases hs : PyFlat.calls PyKqg4.shape fuel t with
      | none => simp only [hs] at h; cases h
      | some cs =>
        simp only [hs] at h
        have hraw := Option.some.inj h
        subst hraw
        unfold PyFlat.call at hc
        cases hsh : PyKqg4.shape p with
        | none => simp only [hsh] at hc; cases hc
        | some nk =>
          obtain ⟨n, k⟩ := nk
          simp only [hsh] at hc
          obtain ⟨i, hi, rfl, hn, rfl⟩ := shape_is hsh
          by_cases hlt : r.length < n
          · rw [if_pos hlt] at hc; cases hc
          · rw [if_neg hlt] at hc
            have hc2 : some (((((i : Nat) : Int) :: r.take n) :: [] : List (List Int)), r.drop n) = some (c, t) := hc
            have hc3 := Option.some.inj hc2
            have e1 : c = [((i : Nat) : Int) :: r.take n] := (congrArg Prod.fst hc3).symm
            have e2 : t = r.drop n := (congrArg Prod.snd hc3).symm
            subst e1 e2
            have hl : szL.getD i 0 = ((r.take n).length : Int) := by rw [hn, List.length_take]; omega
            have hw := whole_len hi hl
            rw [List.map_cons, hw] at ha ⊢
            obtain ⟨rq, r1, r2⟩ := asks_of hi hl (ha _ List.mem_cons_self)
            have ih := parse fuel (r.drop n) cs (Kqg4.step st rq).1 hs (fun c hc => ha c (List.mem_cons_of_mem _ hc))
            have e3 : Kqg4Neutral.step st [((i : Nat) : Int) :: r.take n] = ((Kqg4.step st rq).1, Kqg4Neutral.fields (Kqg4.step st rq).2) := by
              unfold Kqg4Neutral.step
              rw [r2]
            have e4 : PyFlat.told (PyFlat.played Kqg4Neutral.step st ([((i : Nat) : Int) :: r.take n] :: cs.map PyKqg4.whole)) = ((Kqg4Neutral.fields (Kqg4.step st rq).2).length : Int) :: (Kqg4Neutral.fields (Kqg4.step st rq).2 ++ PyFlat.told (PyFlat.played Kqg4Neutral.step (Kqg4.step st rq).1 (cs.map PyKqg4.whole))) := by
              show PyFlat.told ((Kqg4Neutral.step st [((i : Nat) : Int) :: r.take n]).2 :: PyFlat.played Kqg4Neutral.step (Kqg4Neutral.step st [((i : Nat) : Int) :: r.take n]).1 (cs.map PyKqg4.whole)) = _
              rw [e3]
              rfl
            rw [e4]
            have := Ans.cons hi hl r1 ih
            rw [List.take_append_drop] at this
            exact this
theorem asked_is {l : List Int} (h : PyKqg4.answers_asked l = true) : Ans none l (PyKqg4.answers l) ∧ (PyKqg4.answers l).length ≤ 10000000 := by
  unfold PyKqg4.answers_asked at h
  cases hc : PyFlat.calls PyKqg4.shape l.length l with
  | none => rw [hc] at h; cases h
  | some raw =>
    rw [hc] at h
    have h2 : (!raw.isEmpty && PyFlat.atMost 200 raw && PyInside.calls PyKqg4.bound raw && Kqg4Neutral.asked (raw.map PyKqg4.whole) && PyFlat.short 10000000 (PyKqg4.answers l)) = true := h
    simp only [Bool.and_eq_true] at h2
    obtain ⟨⟨⟨⟨_, _⟩, _⟩, h3⟩, h4⟩ := h2
    unfold Kqg4Neutral.asked at h3
    simp only [Bool.and_eq_true] at h3
    obtain ⟨⟨_, h5, _⟩, _⟩ := h3
    have e : PyKqg4.answers l = PyFlat.told (PyFlat.played Kqg4Neutral.step none (raw.map PyKqg4.whole)) := by
      unfold PyKqg4.answers PyKqg4.calls
      rw [hc]; rfl
    refine ⟨?_, of_decide_eq_true h4⟩
    rw [e]
    exact parse l.length l raw none hc fun c hc => List.all_eq_true.mp h5 c hc
end WK

-- part W24
set_option maxRecDepth 100000
set_option maxHeartbeats 8000000
namespace WK
open PySem PySem.Spec PyProof.Rows L2
/-! ## All that the top has -/
/-- a def, at f -/
def DfA (K : PySem.W.Frag) (mg : Str → Option Value) (x : Str) (st : Stmt) (ps : List Str) (f : Addr) : Prop := ∃ fd : FuncData, Fun K x x st f fd ∧ mg x = some (.ref f) ∧ Binds K fd ps []
theorem DfA.df {K : PySem.W.Frag} {mg : Str → Option Value} {x : Str} {st : Stmt} {ps : List Str} {f : Addr} (h : DfA K mg x st ps f) : Df K mg x st ps := by
  obtain ⟨fd, h⟩ := h
  exact ⟨f, fd, h⟩
theorem dfa_mk {K : PySem.W.Frag} {h : Heap} {mg : Str → Option Value} {x : Str} {st : Stmt} {ps : List Str} {f : Addr} {oc : Value} {od an : Option Addr} {osl : Array (Option Value)} {kV doc pm cdv ct : Value} (X : K.In h) (G : h.Ns mainGlobals mg)
    (a : PySem.W.nsIn K mainGlobals x = some (some (.ref f))) (l : K.lookup f = some ⟨oc, od, .func (PySem.W.fnOf x x (defArgs st) (defBody st) (defScope st) .none kV doc pm an cdv ct), osl⟩) (c : PySem.W.codeIn K cdv x = true) (k : PySem.W.keepIn K (.ref f) = true)
    (b : ∀ (kV doc pm : Value) (an : Option Addr) (cdv ct : Value) (us : List Value), us.length = ps.length → bindArgs (PySem.W.fnOf x x (defArgs st) (defBody st) (defScope st) .none kV doc pm an cdv ct) ⟨us, []⟩ = pure (ps.zip us)) : DfA K mg x st ps f :=
  ⟨_, fun_mk l c k, PySem.W.mg_of X G a, (fun_mk l c k).binds b⟩
theorem dm_mk {K : PySem.W.Frag} {m qual : Str} {st : Stmt} {ps : List Str} {f C : Addr} {oc : Value} {od an : Option Addr} {osl : Array (Option Value)} {kV doc pm cdv ct : Value} (cl : Cls K C)
    (a : PySem.W.findIn K (.ref C) m = some (some (.ref f))) (i : PySem.W.isFn K (.ref f) = true) (l : K.lookup f = some ⟨oc, od, .func (PySem.W.fnOf m qual (defArgs st) (defBody st) (defScope st) .none kV doc pm an cdv ct), osl⟩) (c : PySem.W.codeIn K cdv qual = true) (k : PySem.W.keepIn K (.ref f) = true)
    (b : ∀ (kV doc pm : Value) (an : Option Addr) (cdv ct : Value) (us : List Value), us.length = ps.length → bindArgs (PySem.W.fnOf m qual (defArgs st) (defBody st) (defScope st) .none kV doc pm an cdv ct) ⟨us, []⟩ = pure (ps.zip us)) : Dm K C m qual st ps :=
  ⟨f, _, cl, ⟨a, i, k⟩, fun_mk l c k, (fun_mk l c k).binds b⟩
/-- a class with its __init__ -/
structure Ini (K : PySem.W.Frag) (mg : Str → Option Value) (x qual : Str) (st : Stmt) (ps : List Str) (C : Addr) : Prop where
  ex : ∃ (f : Addr) (fd : FuncData), Mk K C f ∧ Fun K "__init__" qual st f fd ∧ mg x = some (.ref C) ∧ Binds K fd ps []
theorem ini_mk {K : PySem.W.Frag} {h : Heap} {mg : Str → Option Value} {x qual : Str} {st : Stmt} {ps : List Str} {f C : Addr} {oc : Value} {od an : Option Addr} {osl : Array (Option Value)} {kV doc pm cdv ct : Value} (X : K.In h) (G : h.Ns mainGlobals mg)
    (aC : PySem.W.nsIn K mainGlobals x = some (some (.ref C))) (mk : PySem.W.makesIn K C = true) (kc : PySem.W.keepIn K (.ref C) = true)
    (a : PySem.W.findIn K (.ref C) "__init__" = some (some (.ref f))) (i : PySem.W.isFn K (.ref f) = true) (l : K.lookup f = some ⟨oc, od, .func (PySem.W.fnOf "__init__" qual (defArgs st) (defBody st) (defScope st) .none kV doc pm an cdv ct), osl⟩) (c : PySem.W.codeIn K cdv qual = true) (k : PySem.W.keepIn K (.ref f) = true)
    (b : ∀ (kV doc pm : Value) (an : Option Addr) (cdv ct : Value) (us : List Value), us.length = ps.length → bindArgs (PySem.W.fnOf "__init__" qual (defArgs st) (defBody st) (defScope st) .none kV doc pm an cdv ct) ⟨us, []⟩ = pure (ps.zip us)) : Ini K mg x qual st ps C :=
  ⟨f, _, ⟨mk, a, i, kc⟩, fun_mk l c k, PySem.W.mg_of X G aC, (fun_mk l c k).binds b⟩
/-- an error of the class at S is what «except S» names -/
theorem exm_self {K : PySem.W.Frag} {S : Addr} (h1 : PySem.W.subIn K (.ref S) (.type "BaseException") = some true) (h2 : PySem.W.isClsIn K S = true) (h3 : PySem.W.typeIn K (.ref S) = some (.type "type")) (h4 : PySem.W.subIn K (.ref S) (.ref S) = some true) :
    PySem.W.exmOne K (.ref S) (.ref S) = some true := by
  have e1 : (PySem.W.subIn K (.ref S) (.type "BaseException") == some true) = true := by rw [h1] <;> rfl
  have e2 : ((PySem.W.clsIn K S).isSome && PySem.W.typeIn K (.ref S) == some (.type "type")) = true := by
    have h2' : (PySem.W.clsIn K S).isSome = true := h2
    rw [h2', h3] <;> rfl
  show (if (PySem.W.subIn K (.ref S) (.type "BaseException") == some true) = true then (if ((PySem.W.clsIn K S).isSome && PySem.W.typeIn K (.ref S) == some (.type "type")) = true then PySem.W.subIn K (.ref S) (.ref S) else none) else none) = some true
  rw [if_pos e1, if_pos e2]
  exact h4
theorem Cl.atF {P : Program} {w : World} {K : PySem.W.Frag} {mg : Str → Option Value} {base : Heap} {k : Nat} {x : Str} {sp : Sp} {f : Addr} (c : Cl P w K mg base (L2.CX P w) k x sp) (m : mg x = some (.ref f)) (hk : k ≤ 7) : AtF P w K mg base f sp := by
  obtain ⟨f', fd, ps, F, m', kp, b⟩ := c.ex
  rw [m] at m'
  cases m'
  exact ⟨k, fd, ps, hk, F, kp, b⟩
theorem c_mk {K : PySem.W.Frag} {h : Heap} {mg : Str → Option Value} {x : Str} {v : V} {u : Value} (X : K.In h) (G : h.Ns mainGlobals mg) (a : PySem.W.nsIn K mainGlobals x = some (some u)) (r : RelV v u) : ∃ u, mg x = some u ∧ RelV v u := ⟨u, PySem.W.mg_of X G a, r⟩
theorem rc_mk {K : PySem.W.Frag} {h : Heap} {mg : Str → Option Value} {CR f1 : Addr} (X : K.In h) (G : h.Ns mainGlobals mg)
    {nm q : Str} {N : Addr} {bs : List Value} {sn : List Str} {sub : List Value} {ab : Bool} {col : Option Bool} {dd : Option Addr} {m0 m1 m2 m3 m5 : Option Value}
    {od1 an1 : Option Addr} {sl1 : Array (Option Value)} {oc1 kV1 dc1 pm1 cd1 ct1 : Value}
    (aC : PySem.W.nsIn K mainGlobals "Refused" = some (some (.ref CR)))
    (xL : K.lookup CR = some (excClassObj nm q CR N bs [.type "ValueError", .type "Exception", .type "BaseException", .type "object"] true sn sub ab col dd m0 m1 m2 m3 m5 "ValueError.__new__"))
    (sa : PySem.W.findIn K (.ref CR) "__setattr__" = some (some (.builtin "object.__setattr__"))) (ga : PySem.W.findIn K (.ref CR) "__getattribute__" = some (some (.builtin "BaseException.__getattribute__"))) (gg : PySem.W.findIn K (.ref CR) "__getattr__" = some none) (nb : PySem.W.findIn K (.ref CR) "code" = some none)
    (a1 : PySem.W.findIn K (.ref CR) "__init__" = some (some (.ref f1))) (t1 : PySem.W.typeIn K (.ref f1) = some (.type "function"))
    (l1 : K.lookup f1 = some ⟨oc1, od1, .func (PySem.W.fnOf "__init__" "Refused.__init__" (defArgs s_Refused___init__) (defBody s_Refused___init__) (defScope s_Refused___init__) .none kV1 dc1 pm1 an1 cd1 ct1), sl1⟩) (c1 : PySem.W.codeIn K cd1 "Refused.__init__" = true) (k1 : PySem.W.keepIn K (.ref f1) = true)
    (kC : PySem.W.keepIn K (.ref CR) = true) (eC : PySem.W.subIn K (.ref CR) (.type "BaseException") = some true) (tC : PySem.W.typeIn K (.ref CR) = some (.type "type")) (hC : PySem.W.hasDictIn K CR = true) (iC : PySem.W.isClsIn K CR = true) (sC : PySem.W.subIn K (.ref CR) (.ref CR) = some true) : RC K mg CR :=
  { ox := ⟨⟨nm, q, N, bs, _, sn, sub, ab, col, dd, m0, m1, m2, m3, m5, xL, by decide +kernel⟩, sa, eC, tC, kC⟩
    ini := ⟨f1, _, a1, t1, fun_mk l1 c1 k1, (fun_mk l1 c1 k1).binds fun _ _ _ _ _ _ us hl => match us, hl with | [_, _], _ => rfl⟩
    mC := PySem.W.mg_of X G aC
    noc := nb
    xf := ⟨ga, gg, eC, hC⟩
    te := exm_self eC iC tC sC }
/-- the tuple at a, as written -/
def TupAt (K : PySem.W.Frag) (a : Addr) (its : List Value) : Prop := ∃ (o : Obj) (arr : Array Value) (n : Nat), K.lookup a = some o ∧ o.cls = .type "tuple" ∧ o.data = .seq arr n ∧ arr.toList = its
theorem tup_mk {K : PySem.W.Frag} {a : Addr} {its : List Value} {o : Obj} {arr : Array Value} {n : Nat} (l : K.lookup a = some o) (c : o.cls = .type "tuple") (d : o.data = .seq arr n) (e : arr.toList = its) : TupAt K a its := ⟨o, arr, n, l, c, d, e⟩
theorem refs_vals : ∀ fs : List Addr, Vals (fs.map V.ref) (fs.map Value.ref)
  | [] => .nil
  | f :: fs => .cons rfl (refs_vals fs)
theorem TupAt.sq {K : PySem.W.Frag} {a : Addr} {its : List Value} {vs : List V} (h : TupAt K a its) (r : Vals vs its) (hz : its.length ≤ 100) : ∀ H, SqT K H a vs := fun H => by
  obtain ⟨o, arr, n, h1, h2, h3, h4⟩ := h
  subst h4
  exact .inr ⟨o, arr, n, h1, h2, h3, small5' (by rw [← Array.length_toList]; omega), r⟩
theorem szs_mk {K : PySem.W.Frag} {h : Heap} {mg : Str → Option Value} {a : Addr} {its : List Value} (X : K.In h) (G : h.Ns mainGlobals mg) (m : PySem.W.nsIn K mainGlobals "SIZES" = some (some (.ref a))) (t : TupAt K a its) (r : Vals (szL.map V.int) its) (hz : its.length ≤ 100) : Szs K mg := ⟨a, PySem.W.mg_of X G m, t.sq r hz⟩

theorem all_mk {P : Program} {w : World} {K : PySem.W.Frag} {mg : Str → Option Value} {C DC CR aD fa f_create f_add_edge f_remove_edge f_list_edges f_max_degree f_tell_counts f_perfect_matchings f_tell_polynomial f_tell_squared f_tell_real_rooted f_evaluate f_greatest_root f_tell_root_floor f_check_root_bound f_polynomial_without_vertex f_polynomial_without_edge f_interlaces_without_vertex f_complement_counts f_complement_formula f_tell_paths f_path_tree_polynomial f_tell_matching f_tell_multiplicity f_summary : Addr} (hfa : mg "answers" = some (.ref fa))
    (T : Nm K mg) (G : GC K C) (DK : DC0 K DC) (RCx : RC K mg CR) (tD : TupAt K aD [.ref f_create, .ref f_add_edge, .ref f_remove_edge, .ref f_list_edges, .ref f_max_degree, .ref f_tell_counts, .ref f_perfect_matchings, .ref f_tell_polynomial, .ref f_tell_squared, .ref f_tell_real_rooted, .ref f_evaluate, .ref f_greatest_root, .ref f_tell_root_floor, .ref f_check_root_bound, .ref f_polynomial_without_vertex, .ref f_polynomial_without_edge, .ref f_interlaces_without_vertex, .ref f_complement_counts, .ref f_complement_formula, .ref f_tell_paths, .ref f_path_tree_polynomial, .ref f_tell_matching, .ref f_tell_multiplicity, .ref f_summary]) (mD : mg "DEEDS" = some (.ref aD)) (SZ : Szs K mg)
    (iG : Ini K mg "Graph" "Graph.__init__" s_Graph___init__ ["self", "vertex_count", "edges"] C) (iD : Ini K mg "Desk" "Desk.__init__" s_Desk___init__ ["self"] DC)
    (D_edge_of : Df K mg "edge_of" s_edge_of ["a", "b"])
    (D_lowered : Df K mg "lowered" s_lowered ["vertex", "gone"])
    (D_all_edges : Df K mg "all_edges" s_all_edges ["vertex_count"])
    (D_is_apart : Df K mg "is_apart" s_is_apart ["edge", "matching"])
    (D_all_matchings : Df K mg "all_matchings" s_all_matchings ["graph"])
    (D_of_size : Df K mg "of_size" s_of_size ["graph", "size"])
    (D_matching_counts : Df K mg "matching_counts" s_matching_counts ["graph"])
    (D_perfect_count : Df K mg "perfect_count" s_perfect_count ["graph"])
    (D_signed : Df K mg "signed" s_signed ["size"])
    (D_odd_product : Df K mg "odd_product" s_odd_product ["number"])
    (D_complement_sum : Df K mg "complement_sum" s_complement_sum ["graph"])
    (D_matching_polynomial : Df K mg "matching_polynomial" s_matching_polynomial ["graph"])
    (D_squared_polynomial : Df K mg "squared_polynomial" s_squared_polynomial ["graph"])
    (D_derivative : Df K mg "derivative" s_derivative ["some"])
    (D_trimmed : Df K mg "trimmed" s_trimmed ["some"])
    (D_reduced : Df K mg "reduced" s_reduced ["some", "other"])
    (D_negated_remainder : Df K mg "negated_remainder" s_negated_remainder ["some", "other"])
    (D_is_full_chain : Df K mg "is_full_chain" s_is_full_chain ["some", "other"])
    (D_is_real_rooted : Df K mg "is_real_rooted" s_is_real_rooted ["some"])
    (D_interlaces : Df K mg "interlaces" s_interlaces ["other", "some"])
    (D_scaled : Df K mg "scaled" s_scaled ["some", "factor"])
    (D_power : Df K mg "power" s_power ["base", "times"])
    (D_value_at : Df K mg "value_at" s_value_at ["some", "numerator", "denominator"])
    (D_shifted : Df K mg "shifted" s_shifted ["some", "number"])
    (D_zeros_ahead : Df K mg "zeros_ahead" s_zeros_ahead ["some"])
    (D_sign_changes : Df K mg "sign_changes" s_sign_changes ["some"])
    (D_multiplicity : Df K mg "multiplicity" s_multiplicity ["some", "number"])
    (D_roots_from : Df K mg "roots_from" s_roots_from ["some", "number"])
    (D_root_floor : Df K mg "root_floor" s_root_floor ["some", "k", "bits"])
    (D_common_divisor : Df K mg "common_divisor" s_common_divisor ["one", "other"])
    (D_told_polynomial : Df K mg "told_polynomial" s_told_polynomial ["some"])
    (D_told_edges : Df K mg "told_edges" s_told_edges ["edges"])
    (D_counted : Df K mg "counted" s_counted ["some"])
    (D_longer_paths : Df K mg "longer_paths" s_longer_paths ["graph", "path"])
    (D_paths_and_joins : Df K mg "paths_and_joins" s_paths_and_joins ["graph", "vertex"])
    (D_count_paths : Df K mg "count_paths" s_count_paths ["graph", "vertex"])
    (D_path_tree : Df K mg "path_tree" s_path_tree ["graph", "vertex"])
    (D_want : Df K mg "want" s_want ["is_so", "code"])
    (D_want_vertices : Df K mg "want_vertices" s_want_vertices ["graph", "some"])
    (D_want_edge : Df K mg "want_edge" s_want_edge ["graph", "numbers"])
    (D_want_fraction : Df K mg "want_fraction" s_want_fraction ["numbers"])
    (D_list_edges : DfA K mg "list_edges" s_list_edges ["desk", "numbers"] f_list_edges)
    (D_max_degree : DfA K mg "max_degree" s_max_degree ["desk", "numbers"] f_max_degree)
    (D_tell_counts : DfA K mg "tell_counts" s_tell_counts ["desk", "numbers"] f_tell_counts)
    (D_perfect_matchings : DfA K mg "perfect_matchings" s_perfect_matchings ["desk", "numbers"] f_perfect_matchings)
    (D_tell_polynomial : DfA K mg "tell_polynomial" s_tell_polynomial ["desk", "numbers"] f_tell_polynomial)
    (D_tell_squared : DfA K mg "tell_squared" s_tell_squared ["desk", "numbers"] f_tell_squared)
    (D_tell_real_rooted : DfA K mg "tell_real_rooted" s_tell_real_rooted ["desk", "numbers"] f_tell_real_rooted)
    (D_summary : DfA K mg "summary" s_summary ["desk", "numbers"] f_summary)
    (D_evaluate : DfA K mg "evaluate" s_evaluate ["desk", "numbers"] f_evaluate)
    (D_greatest_root : DfA K mg "greatest_root" s_greatest_root ["desk", "numbers"] f_greatest_root)
    (D_tell_root_floor : DfA K mg "tell_root_floor" s_tell_root_floor ["desk", "numbers"] f_tell_root_floor)
    (D_check_root_bound : DfA K mg "check_root_bound" s_check_root_bound ["desk", "numbers"] f_check_root_bound)
    (D_polynomial_without_vertex : DfA K mg "polynomial_without_vertex" s_polynomial_without_vertex ["desk", "numbers"] f_polynomial_without_vertex)
    (D_polynomial_without_edge : DfA K mg "polynomial_without_edge" s_polynomial_without_edge ["desk", "numbers"] f_polynomial_without_edge)
    (D_interlaces_without_vertex : DfA K mg "interlaces_without_vertex" s_interlaces_without_vertex ["desk", "numbers"] f_interlaces_without_vertex)
    (D_complement_counts : DfA K mg "complement_counts" s_complement_counts ["desk", "numbers"] f_complement_counts)
    (D_complement_formula : DfA K mg "complement_formula" s_complement_formula ["desk", "numbers"] f_complement_formula)
    (D_tell_paths : DfA K mg "tell_paths" s_tell_paths ["desk", "numbers"] f_tell_paths)
    (D_path_tree_polynomial : DfA K mg "path_tree_polynomial" s_path_tree_polynomial ["desk", "numbers"] f_path_tree_polynomial)
    (D_tell_matching : DfA K mg "tell_matching" s_tell_matching ["desk", "numbers"] f_tell_matching)
    (D_tell_multiplicity : DfA K mg "tell_multiplicity" s_tell_multiplicity ["desk", "numbers"] f_tell_multiplicity)
    (D_create : DfA K mg "create" s_create ["desk", "numbers"] f_create)
    (D_add_edge : DfA K mg "add_edge" s_add_edge ["desk", "numbers"] f_add_edge)
    (D_remove_edge : DfA K mg "remove_edge" s_remove_edge ["desk", "numbers"] f_remove_edge)
    (D_answer : Df K mg "answer" s_answer ["desk", "call", "numbers"])
    (D_degree : Dm K C "degree" "Graph.degree" s_Graph_degree ["self", "vertex"])
    (D_greatest_degree : Dm K C "greatest_degree" "Graph.greatest_degree" s_Graph_greatest_degree ["self"])
    (D_neighbours : Dm K C "neighbours" "Graph.neighbours" s_Graph_neighbours ["self", "vertex"])
    (D_with_edge : Dm K C "with_edge" "Graph.with_edge" s_Graph_with_edge ["self", "edge"])
    (D_without_edge : Dm K C "without_edge" "Graph.without_edge" s_Graph_without_edge ["self", "edge"])
    (D_without_vertex : Dm K C "without_vertex" "Graph.without_vertex" s_Graph_without_vertex ["self", "vertex"])
    (D_complement : Dm K C "complement" "Graph.complement" s_Graph_complement ["self"])
    {f : Addr} (mA : mg "answers" = some (.ref f)) {od3 an3 : Option Addr} {sl3 : Array (Option Value)} {oc3 kV3 dc3 pm3 cd3 ct3 : Value} (l3 : K.lookup f = some ⟨oc3, od3, .func (PySem.W.fnOf "answers" "answers" (defArgs s_answers) (defBody s_answers) (defScope s_answers) .none kV3 dc3 pm3 an3 cd3 ct3), sl3⟩) (c3 : PySem.W.codeIn K cd3 "answers" = true) (k3 : PySem.W.keepIn K (.ref f) = true) :
    ∃ fd : FuncData, (∀ (s : Shared) (us : List Value), us.length = (["calls"] : List Str).length → BindsTo s fd ⟨us, []⟩ ((["calls"] : List Str).zip us)) ∧ ∀ base : Heap, K.In base → base.Ns mainGlobals mg → FnOk P w K mg base CX0 9 fa fd ["calls"] (spAll K) := by
  have e := hfa.symm.trans mA
  cases e
  refine ⟨PySem.W.fnOf "answers" "answers" (defArgs s_answers) (defBody s_answers) (defScope s_answers) .none kV3 dc3 pm3 an3 cd3 ct3, fun s us hu => match us, hu with | [_], _ => .of_eq rfl, fun base _ _ => ?_⟩
  have FA := fun_mk (st := s_answers) l3 c3 k3
  obtain ⟨fG, fdG, M1, F1, mG, b1⟩ := iG.ex
  obtain ⟨fD, fdD, M2, F2, mDk, b2⟩ := iD.ex
  have mk_Graph : Mk1 P w K mg base 1 "Graph" C (spGInit C) := ⟨fG, fdG, _, M1, ok_GInit T G F1, mG, b1⟩
  have mk_Desk : Mk1 P w K mg base 1 "Desk" DC (spDInit DC) := ⟨fD, fdD, _, M2, ok_DInit T DK F2, mDk, b2⟩
  have c_degreeM := m_degree (P := P) (w := w) (base := base) (T := T) (G := G) (D := D_degree)
  have c_greatest_degreeM := m_greatest_degree (P := P) (w := w) (base := base) (T := T) (G := G) (m_degree := c_degreeM) (D := D_greatest_degree)
  have c_neighboursM := m_neighbours (P := P) (w := w) (base := base) (T := T) (G := G) (D := D_neighbours)
  have c_with_edgeM := m_with_edge (P := P) (w := w) (base := base) (T := T) (G := G) (mk_Graph := mk_Graph) (D := D_with_edge)
  have c_without_edgeM := m_without_edge (P := P) (w := w) (base := base) (T := T) (G := G) (mk_Graph := mk_Graph) (D := D_without_edge)
  have c_edge_of := d_edge_of (P := P) (w := w) (base := base) (T := T) (D := D_edge_of)
  have c_lowered := d_lowered (P := P) (w := w) (base := base) (T := T) (D := D_lowered)
  have c_all_edges := d_all_edges (P := P) (w := w) (base := base) (T := T) (D := D_all_edges)
  have c_without_vertexM := m_without_vertex (P := P) (w := w) (base := base) (T := T) (G := G) (d_lowered := c_lowered) (mk_Graph := mk_Graph) (D := D_without_vertex)
  have c_complementM := m_complement (P := P) (w := w) (base := base) (T := T) (G := G) (d_all_edges := c_all_edges) (mk_Graph := mk_Graph) (D := D_complement)
  have c_is_apart := d_is_apart (P := P) (w := w) (base := base) (T := T) (D := D_is_apart)
  have c_all_matchings := d_all_matchings (P := P) (w := w) (base := base) (T := T) (G := G) (d_is_apart := c_is_apart) (D := D_all_matchings)
  have c_of_size := d_of_size (P := P) (w := w) (base := base) (T := T) (G := G) (d_all_matchings := c_all_matchings) (D := D_of_size)
  have c_matching_counts := d_matching_counts (P := P) (w := w) (base := base) (T := T) (G := G) (d_all_matchings := c_all_matchings) (D := D_matching_counts)
  have c_perfect_count := d_perfect_count (P := P) (w := w) (base := base) (T := T) (G := G) (d_all_matchings := c_all_matchings) (D := D_perfect_count)
  have c_signed := d_signed (P := P) (w := w) (base := base) (T := T) (D := D_signed)
  have c_odd_product := d_odd_product (P := P) (w := w) (base := base) (T := T) (D := D_odd_product)
  have c_complement_sum := d_complement_sum (P := P) (w := w) (base := base) (T := T) (G := G) (d_matching_counts := c_matching_counts) (d_signed := c_signed) (d_odd_product := c_odd_product) (D := D_complement_sum)
  have c_matching_polynomial := d_matching_polynomial (P := P) (w := w) (base := base) (T := T) (G := G) (d_matching_counts := c_matching_counts) (d_signed := c_signed) (D := D_matching_polynomial)
  have c_squared_polynomial := d_squared_polynomial (P := P) (w := w) (base := base) (T := T) (G := G) (d_matching_polynomial := c_matching_polynomial) (D := D_squared_polynomial)
  have c_derivative := d_derivative (P := P) (w := w) (base := base) (T := T) (D := D_derivative)
  have c_trimmed := d_trimmed (P := P) (w := w) (base := base) (T := T) (D := D_trimmed)
  have c_reduced := d_reduced (P := P) (w := w) (base := base) (T := T) (d_trimmed := c_trimmed) (D := D_reduced)
  have c_negated_remainder := d_negated_remainder (P := P) (w := w) (base := base) (T := T) (d_reduced := c_reduced) (D := D_negated_remainder)
  have c_is_full_chain := d_is_full_chain (P := P) (w := w) (base := base) (T := T) (d_negated_remainder := c_negated_remainder) (D := D_is_full_chain)
  have c_is_real_rooted := d_is_real_rooted (P := P) (w := w) (base := base) (T := T) (d_derivative := c_derivative) (d_is_full_chain := c_is_full_chain) (D := D_is_real_rooted)
  have c_interlaces := d_interlaces (P := P) (w := w) (base := base) (T := T) (d_is_real_rooted := c_is_real_rooted) (d_is_full_chain := c_is_full_chain) (D := D_interlaces)
  have c_scaled := d_scaled (P := P) (w := w) (base := base) (T := T) (D := D_scaled)
  have c_power := d_power (P := P) (w := w) (base := base) (T := T) (D := D_power)
  have c_value_at := d_value_at (P := P) (w := w) (base := base) (T := T) (d_scaled := c_scaled) (D := D_value_at)
  have c_shifted := d_shifted (P := P) (w := w) (base := base) (T := T) (D := D_shifted)
  have c_zeros_ahead := d_zeros_ahead (P := P) (w := w) (base := base) (T := T) (D := D_zeros_ahead)
  have c_sign_changes := d_sign_changes (P := P) (w := w) (base := base) (T := T) (D := D_sign_changes)
  have c_multiplicity := d_multiplicity (P := P) (w := w) (base := base) (T := T) (d_zeros_ahead := c_zeros_ahead) (d_shifted := c_shifted) (D := D_multiplicity)
  have c_roots_from := d_roots_from (P := P) (w := w) (base := base) (T := T) (d_zeros_ahead := c_zeros_ahead) (d_sign_changes := c_sign_changes) (d_shifted := c_shifted) (D := D_roots_from)
  have c_root_floor := d_root_floor (P := P) (w := w) (base := base) (T := T) (d_scaled := c_scaled) (d_roots_from := c_roots_from) (D := D_root_floor)
  have c_common_divisor := d_common_divisor (P := P) (w := w) (base := base) (T := T) (D := D_common_divisor)
  have c_told_polynomial := d_told_polynomial (P := P) (w := w) (base := base) (T := T) (D := D_told_polynomial)
  have c_told_edges := d_told_edges (P := P) (w := w) (base := base) (T := T) (D := D_told_edges)
  have c_counted := d_counted (P := P) (w := w) (base := base) (T := T) (D := D_counted)
  have c_longer_paths := d_longer_paths (P := P) (w := w) (base := base) (T := T) (G := G) (m_neighbours := c_neighboursM) (D := D_longer_paths)
  have c_paths_and_joins := d_paths_and_joins (P := P) (w := w) (base := base) (T := T) (G := G) (d_longer_paths := c_longer_paths) (D := D_paths_and_joins)
  have c_count_paths := d_count_paths (P := P) (w := w) (base := base) (T := T) (G := G) (d_paths_and_joins := c_paths_and_joins) (D := D_count_paths)
  have c_path_tree := d_path_tree (P := P) (w := w) (base := base) (T := T) (G := G) (mk_Graph := mk_Graph) (d_paths_and_joins := c_paths_and_joins) (D := D_path_tree)
  have c_want := d_want (P := P) (w := w) (base := base) (T := T) (R := RCx) (D := D_want)
  have c_want_vertices := d_want_vertices (P := P) (w := w) (base := base) (T := T) (G := G) (d_want := c_want) (D := D_want_vertices)
  have c_want_edge := d_want_edge (P := P) (w := w) (base := base) (T := T) (G := G) (d_want := c_want) (d_want_vertices := c_want_vertices) (d_edge_of := c_edge_of) (D := D_want_edge)
  have c_want_fraction := d_want_fraction (P := P) (w := w) (base := base) (T := T) (d_want := c_want) (D := D_want_fraction)
  have c_list_edges := d_list_edges (P := P) (w := w) (base := base) (CR := CR) (T := T) (G := G) (DK := DK) (d_told_edges := c_told_edges) (D := D_list_edges.df)
  have c_max_degree := d_max_degree (P := P) (w := w) (base := base) (CR := CR) (T := T) (G := G) (DK := DK) (m_greatest_degree := c_greatest_degreeM) (D := D_max_degree.df)
  have c_tell_counts := d_tell_counts (P := P) (w := w) (base := base) (CR := CR) (T := T) (G := G) (DK := DK) (d_counted := c_counted) (d_matching_counts := c_matching_counts) (D := D_tell_counts.df)
  have c_perfect_matchings := d_perfect_matchings (P := P) (w := w) (base := base) (CR := CR) (T := T) (G := G) (DK := DK) (d_perfect_count := c_perfect_count) (D := D_perfect_matchings.df)
  have c_tell_polynomial := d_tell_polynomial (P := P) (w := w) (base := base) (CR := CR) (T := T) (G := G) (DK := DK) (d_told_polynomial := c_told_polynomial) (d_matching_polynomial := c_matching_polynomial) (D := D_tell_polynomial.df)
  have c_tell_squared := d_tell_squared (P := P) (w := w) (base := base) (CR := CR) (T := T) (G := G) (DK := DK) (d_told_polynomial := c_told_polynomial) (d_squared_polynomial := c_squared_polynomial) (D := D_tell_squared.df)
  have c_tell_real_rooted := d_tell_real_rooted (P := P) (w := w) (base := base) (CR := CR) (T := T) (G := G) (DK := DK) (d_is_real_rooted := c_is_real_rooted) (d_matching_polynomial := c_matching_polynomial) (D := D_tell_real_rooted.df)
  have c_summary := d_summary (P := P) (w := w) (base := base) (CR := CR) (T := T) (G := G) (DK := DK) (D := D_summary.df)
  have c_evaluate := d_evaluate (P := P) (w := w) (base := base) (CR := CR) (T := T) (G := G) (DK := DK) (d_want_fraction := c_want_fraction) (d_matching_polynomial := c_matching_polynomial) (d_value_at := c_value_at) (d_power := c_power) (d_common_divisor := c_common_divisor) (D := D_evaluate.df)
  have c_greatest_root := d_greatest_root (P := P) (w := w) (base := base) (CR := CR) (T := T) (G := G) (DK := DK) (d_want := c_want) (d_root_floor := c_root_floor) (d_matching_polynomial := c_matching_polynomial) (D := D_greatest_root.df)
  have c_tell_root_floor := d_tell_root_floor (P := P) (w := w) (base := base) (CR := CR) (T := T) (G := G) (DK := DK) (d_want := c_want) (d_root_floor := c_root_floor) (d_matching_polynomial := c_matching_polynomial) (D := D_tell_root_floor.df)
  have c_check_root_bound := d_check_root_bound (P := P) (w := w) (base := base) (CR := CR) (T := T) (G := G) (DK := DK) (m_greatest_degree := c_greatest_degreeM) (d_want := c_want) (d_roots_from := c_roots_from) (d_squared_polynomial := c_squared_polynomial) (D := D_check_root_bound.df)
  have c_polynomial_without_vertex := d_polynomial_without_vertex (P := P) (w := w) (base := base) (CR := CR) (T := T) (G := G) (DK := DK) (d_want_vertices := c_want_vertices) (d_told_polynomial := c_told_polynomial) (d_matching_polynomial := c_matching_polynomial) (m_without_vertex := c_without_vertexM) (D := D_polynomial_without_vertex.df)
  have c_polynomial_without_edge := d_polynomial_without_edge (P := P) (w := w) (base := base) (CR := CR) (T := T) (G := G) (DK := DK) (d_want_edge := c_want_edge) (d_told_polynomial := c_told_polynomial) (d_matching_polynomial := c_matching_polynomial) (m_without_edge := c_without_edgeM) (D := D_polynomial_without_edge.df)
  have c_interlaces_without_vertex := d_interlaces_without_vertex (P := P) (w := w) (base := base) (CR := CR) (T := T) (G := G) (DK := DK) (d_want_vertices := c_want_vertices) (d_matching_polynomial := c_matching_polynomial) (m_without_vertex := c_without_vertexM) (d_interlaces := c_interlaces) (D := D_interlaces_without_vertex.df)
  have c_complement_counts := d_complement_counts (P := P) (w := w) (base := base) (CR := CR) (T := T) (G := G) (DK := DK) (d_counted := c_counted) (d_matching_counts := c_matching_counts) (m_complement := c_complementM) (D := D_complement_counts.df)
  have c_complement_formula := d_complement_formula (P := P) (w := w) (base := base) (CR := CR) (T := T) (G := G) (DK := DK) (d_complement_sum := c_complement_sum) (D := D_complement_formula.df)
  have c_tell_paths := d_tell_paths (P := P) (w := w) (base := base) (CR := CR) (T := T) (G := G) (DK := DK) (d_want_vertices := c_want_vertices) (d_count_paths := c_count_paths) (D := D_tell_paths.df)
  have c_path_tree_polynomial := d_path_tree_polynomial (P := P) (w := w) (base := base) (CR := CR) (T := T) (G := G) (DK := DK) (d_want_vertices := c_want_vertices) (d_want := c_want) (d_count_paths := c_count_paths) (d_told_polynomial := c_told_polynomial) (d_matching_polynomial := c_matching_polynomial) (d_path_tree := c_path_tree) (D := D_path_tree_polynomial.df)
  have c_tell_matching := d_tell_matching (P := P) (w := w) (base := base) (CR := CR) (T := T) (G := G) (DK := DK) (d_of_size := c_of_size) (d_want := c_want) (d_told_edges := c_told_edges) (D := D_tell_matching.df)
  have c_tell_multiplicity := d_tell_multiplicity (P := P) (w := w) (base := base) (CR := CR) (T := T) (G := G) (DK := DK) (d_want_fraction := c_want_fraction) (d_multiplicity := c_multiplicity) (d_scaled := c_scaled) (d_matching_polynomial := c_matching_polynomial) (D := D_tell_multiplicity.df)
  have c_create := d_create (P := P) (w := w) (base := base) (CR := CR) (T := T) (G := G) (DK := DK) (d_want := c_want) (mk_Graph := mk_Graph) (D := D_create.df)
  have c_add_edge := d_add_edge (P := P) (w := w) (base := base) (CR := CR) (T := T) (G := G) (DK := DK) (d_want_vertices := c_want_vertices) (d_want := c_want) (d_edge_of := c_edge_of) (m_with_edge := c_with_edgeM) (D := D_add_edge.df)
  have c_remove_edge := d_remove_edge (P := P) (w := w) (base := base) (CR := CR) (T := T) (G := G) (DK := DK) (d_want_edge := c_want_edge) (m_without_edge := c_without_edgeM) (D := D_remove_edge.df)
  have DD : Deeds P w K mg base C DC CR := ⟨aD, [f_create, f_add_edge, f_remove_edge, f_list_edges, f_max_degree, f_tell_counts, f_perfect_matchings, f_tell_polynomial, f_tell_squared, f_tell_real_rooted, f_evaluate, f_greatest_root, f_tell_root_floor, f_check_root_bound, f_polynomial_without_vertex, f_polynomial_without_edge, f_interlaces_without_vertex, f_complement_counts, f_complement_formula, f_tell_paths, f_path_tree_polynomial, f_tell_matching, f_tell_multiplicity, f_summary], mD, tD.sq (refs_vals _) (by show 24 ≤ 100; decide), fun i hi => ?_⟩
  · have c_answer := d_answer (P := P) (w := w) (base := base) (T := T) (G := G) (DK := DK) (RCx := RCx) (DD := DD) (d_want := c_want) (D := D_answer)
    exact ok_answers T G DK SZ mk_Desk c_answer FA
  · match i, hi with
    | 0, _ => exact ⟨_, rfl, (c_create.atF (by obtain ⟨_, _, m, _⟩ := D_create; exact m) (by decide))⟩
    | 1, _ => exact ⟨_, rfl, (c_add_edge.atF (by obtain ⟨_, _, m, _⟩ := D_add_edge; exact m) (by decide))⟩
    | 2, _ => exact ⟨_, rfl, (c_remove_edge.atF (by obtain ⟨_, _, m, _⟩ := D_remove_edge; exact m) (by decide))⟩
    | 3, _ => exact ⟨_, rfl, (c_list_edges.atF (by obtain ⟨_, _, m, _⟩ := D_list_edges; exact m) (by decide))⟩
    | 4, _ => exact ⟨_, rfl, (c_max_degree.atF (by obtain ⟨_, _, m, _⟩ := D_max_degree; exact m) (by decide))⟩
    | 5, _ => exact ⟨_, rfl, (c_tell_counts.atF (by obtain ⟨_, _, m, _⟩ := D_tell_counts; exact m) (by decide))⟩
    | 6, _ => exact ⟨_, rfl, (c_perfect_matchings.atF (by obtain ⟨_, _, m, _⟩ := D_perfect_matchings; exact m) (by decide))⟩
    | 7, _ => exact ⟨_, rfl, (c_tell_polynomial.atF (by obtain ⟨_, _, m, _⟩ := D_tell_polynomial; exact m) (by decide))⟩
    | 8, _ => exact ⟨_, rfl, (c_tell_squared.atF (by obtain ⟨_, _, m, _⟩ := D_tell_squared; exact m) (by decide))⟩
    | 9, _ => exact ⟨_, rfl, (c_tell_real_rooted.atF (by obtain ⟨_, _, m, _⟩ := D_tell_real_rooted; exact m) (by decide))⟩
    | 10, _ => exact ⟨_, rfl, (c_evaluate.atF (by obtain ⟨_, _, m, _⟩ := D_evaluate; exact m) (by decide))⟩
    | 11, _ => exact ⟨_, rfl, (c_greatest_root.atF (by obtain ⟨_, _, m, _⟩ := D_greatest_root; exact m) (by decide))⟩
    | 12, _ => exact ⟨_, rfl, (c_tell_root_floor.atF (by obtain ⟨_, _, m, _⟩ := D_tell_root_floor; exact m) (by decide))⟩
    | 13, _ => exact ⟨_, rfl, (c_check_root_bound.atF (by obtain ⟨_, _, m, _⟩ := D_check_root_bound; exact m) (by decide))⟩
    | 14, _ => exact ⟨_, rfl, (c_polynomial_without_vertex.atF (by obtain ⟨_, _, m, _⟩ := D_polynomial_without_vertex; exact m) (by decide))⟩
    | 15, _ => exact ⟨_, rfl, (c_polynomial_without_edge.atF (by obtain ⟨_, _, m, _⟩ := D_polynomial_without_edge; exact m) (by decide))⟩
    | 16, _ => exact ⟨_, rfl, (c_interlaces_without_vertex.atF (by obtain ⟨_, _, m, _⟩ := D_interlaces_without_vertex; exact m) (by decide))⟩
    | 17, _ => exact ⟨_, rfl, (c_complement_counts.atF (by obtain ⟨_, _, m, _⟩ := D_complement_counts; exact m) (by decide))⟩
    | 18, _ => exact ⟨_, rfl, (c_complement_formula.atF (by obtain ⟨_, _, m, _⟩ := D_complement_formula; exact m) (by decide))⟩
    | 19, _ => exact ⟨_, rfl, (c_tell_paths.atF (by obtain ⟨_, _, m, _⟩ := D_tell_paths; exact m) (by decide))⟩
    | 20, _ => exact ⟨_, rfl, (c_path_tree_polynomial.atF (by obtain ⟨_, _, m, _⟩ := D_path_tree_polynomial; exact m) (by decide))⟩
    | 21, _ => exact ⟨_, rfl, (c_tell_matching.atF (by obtain ⟨_, _, m, _⟩ := D_tell_matching; exact m) (by decide))⟩
    | 22, _ => exact ⟨_, rfl, (c_tell_multiplicity.atF (by obtain ⟨_, _, m, _⟩ := D_tell_multiplicity; exact m) (by decide))⟩
    | 23, _ => exact ⟨_, rfl, (c_summary.atF (by obtain ⟨_, _, m, _⟩ := D_summary; exact m) (by decide))⟩
    | i + 24, hi => exact absurd hi (by omega)
end WK

open PySem PySem.W PyProof.Rows
set_option maxRecDepth 100000
set_option maxHeartbeats 0
theorem PySem.Challenge.cw_matchgraph_s01_answers_holds : PySem.Challenge.rw_matchgraph_s01_answers.Holds := by
  w_on; k_headS; (case hw => exact ⟨[.list [.int 23]], by decide +kernel, by decide +kernel⟩)
  k_fillS
  refine L2.walk_specK (r := PySem.Challenge.rw_matchgraph_s01_answers) (k := 9) (CX := L2.CX0) (ps := ["calls"]) (sp := WK.spAll) (by decide +kernel) rfl rfl ⟨rfl, by decide, by decide⟩ (fun w h Y => PySem.W.kIn_of Y) ?F ?S (fun _ _ _ _ z => z)
  case F =>
    intro w mg fa h Y KX G hmg
    clear Y
    refine' WK.all_mk hmg ?T ?GCx ?DK ?RCx ?tD ?mD ?SZ ?iG ?iD ?D_edge_of ?D_lowered ?D_all_edges ?D_is_apart ?D_all_matchings ?D_of_size ?D_matching_counts ?D_perfect_count ?D_signed ?D_odd_product ?D_complement_sum ?D_matching_polynomial ?D_squared_polynomial ?D_derivative ?D_trimmed ?D_reduced ?D_negated_remainder ?D_is_full_chain ?D_is_real_rooted ?D_interlaces ?D_scaled ?D_power ?D_value_at ?D_shifted ?D_zeros_ahead ?D_sign_changes ?D_multiplicity ?D_roots_from ?D_root_floor ?D_common_divisor ?D_told_polynomial ?D_told_edges ?D_counted ?D_longer_paths ?D_paths_and_joins ?D_count_paths ?D_path_tree ?D_want ?D_want_vertices ?D_want_edge ?D_want_fraction ?D_list_edges ?D_max_degree ?D_tell_counts ?D_perfect_matchings ?D_tell_polynomial ?D_tell_squared ?D_tell_real_rooted ?D_summary ?D_evaluate ?D_greatest_root ?D_tell_root_floor ?D_check_root_bound ?D_polynomial_without_vertex ?D_polynomial_without_edge ?D_interlaces_without_vertex ?D_complement_counts ?D_complement_formula ?D_tell_paths ?D_path_tree_polynomial ?D_tell_matching ?D_tell_multiplicity ?D_create ?D_add_edge ?D_remove_edge ?D_answer ?D_degree ?D_greatest_degree ?D_neighbours ?D_with_edge ?D_without_edge ?D_without_vertex ?D_complement ?mA ?l3 ?c3 ?k3
    case iG =>
      refine' WK.ini_mk KX G ?aC ?mk ?kc ?a ?i ?l ?c ?k (fun _ _ _ _ _ _ us hl => match us, hl with | [_, _, _], _ => rfl)
      (case aC => k_is)
      (case mk => k_is)
      (case kc => k_is)
      (case a => k_is)
      (case i => k_is)
      (case l => k_is)
      (case c => k_is)
      (case k => k_is)
    case iD =>
      refine' WK.ini_mk KX G ?aC ?mk ?kc ?a ?i ?l ?c ?k (fun _ _ _ _ _ _ us hl => match us, hl with | [_], _ => rfl)
      (case aC => k_is)
      (case mk => k_is)
      (case kc => k_is)
      (case a => k_is)
      (case i => k_is)
      (case l => k_is)
      (case c => k_is)
      (case k => k_is)
    case GCx => exact ⟨⟨by k_is, by k_is, by k_is, by k_is⟩, by (show PySem.W.findIn _ _ _ = _); k_is, by (show PySem.W.findIn _ _ _ = _); k_is⟩
    case DK => exact ⟨⟨by k_is, by k_is, by k_is, by k_is⟩, by (show PySem.W.findIn _ _ _ = _); k_is⟩
    case D_edge_of =>
      refine' WK.DfA.df (WK.dfa_mk KX G ?a ?l ?c ?k (fun _ _ _ _ _ _ us hl => match us, hl with | [_, _], _ => rfl))
      (case a => k_is); (case l => k_is); (case c => k_is); (case k => k_is)
    case D_lowered =>
      refine' WK.DfA.df (WK.dfa_mk KX G ?a ?l ?c ?k (fun _ _ _ _ _ _ us hl => match us, hl with | [_, _], _ => rfl))
      (case a => k_is); (case l => k_is); (case c => k_is); (case k => k_is)
    case D_all_edges =>
      refine' WK.DfA.df (WK.dfa_mk KX G ?a ?l ?c ?k (fun _ _ _ _ _ _ us hl => match us, hl with | [_], _ => rfl))
      (case a => k_is); (case l => k_is); (case c => k_is); (case k => k_is)
    case D_is_apart =>
      refine' WK.DfA.df (WK.dfa_mk KX G ?a ?l ?c ?k (fun _ _ _ _ _ _ us hl => match us, hl with | [_, _], _ => rfl))
      (case a => k_is); (case l => k_is); (case c => k_is); (case k => k_is)
    case D_all_matchings =>
      refine' WK.DfA.df (WK.dfa_mk KX G ?a ?l ?c ?k (fun _ _ _ _ _ _ us hl => match us, hl with | [_], _ => rfl))
      (case a => k_is); (case l => k_is); (case c => k_is); (case k => k_is)
    case D_of_size =>
      refine' WK.DfA.df (WK.dfa_mk KX G ?a ?l ?c ?k (fun _ _ _ _ _ _ us hl => match us, hl with | [_, _], _ => rfl))
      (case a => k_is); (case l => k_is); (case c => k_is); (case k => k_is)
    case D_matching_counts =>
      refine' WK.DfA.df (WK.dfa_mk KX G ?a ?l ?c ?k (fun _ _ _ _ _ _ us hl => match us, hl with | [_], _ => rfl))
      (case a => k_is); (case l => k_is); (case c => k_is); (case k => k_is)
    case D_perfect_count =>
      refine' WK.DfA.df (WK.dfa_mk KX G ?a ?l ?c ?k (fun _ _ _ _ _ _ us hl => match us, hl with | [_], _ => rfl))
      (case a => k_is); (case l => k_is); (case c => k_is); (case k => k_is)
    case D_signed =>
      refine' WK.DfA.df (WK.dfa_mk KX G ?a ?l ?c ?k (fun _ _ _ _ _ _ us hl => match us, hl with | [_], _ => rfl))
      (case a => k_is); (case l => k_is); (case c => k_is); (case k => k_is)
    case D_odd_product =>
      refine' WK.DfA.df (WK.dfa_mk KX G ?a ?l ?c ?k (fun _ _ _ _ _ _ us hl => match us, hl with | [_], _ => rfl))
      (case a => k_is); (case l => k_is); (case c => k_is); (case k => k_is)
    case D_complement_sum =>
      refine' WK.DfA.df (WK.dfa_mk KX G ?a ?l ?c ?k (fun _ _ _ _ _ _ us hl => match us, hl with | [_], _ => rfl))
      (case a => k_is); (case l => k_is); (case c => k_is); (case k => k_is)
    case D_matching_polynomial =>
      refine' WK.DfA.df (WK.dfa_mk KX G ?a ?l ?c ?k (fun _ _ _ _ _ _ us hl => match us, hl with | [_], _ => rfl))
      (case a => k_is); (case l => k_is); (case c => k_is); (case k => k_is)
    case D_squared_polynomial =>
      refine' WK.DfA.df (WK.dfa_mk KX G ?a ?l ?c ?k (fun _ _ _ _ _ _ us hl => match us, hl with | [_], _ => rfl))
      (case a => k_is); (case l => k_is); (case c => k_is); (case k => k_is)
    case D_derivative =>
      refine' WK.DfA.df (WK.dfa_mk KX G ?a ?l ?c ?k (fun _ _ _ _ _ _ us hl => match us, hl with | [_], _ => rfl))
      (case a => k_is); (case l => k_is); (case c => k_is); (case k => k_is)
    case D_trimmed =>
      refine' WK.DfA.df (WK.dfa_mk KX G ?a ?l ?c ?k (fun _ _ _ _ _ _ us hl => match us, hl with | [_], _ => rfl))
      (case a => k_is); (case l => k_is); (case c => k_is); (case k => k_is)
    case D_reduced =>
      refine' WK.DfA.df (WK.dfa_mk KX G ?a ?l ?c ?k (fun _ _ _ _ _ _ us hl => match us, hl with | [_, _], _ => rfl))
      (case a => k_is); (case l => k_is); (case c => k_is); (case k => k_is)
    case D_negated_remainder =>
      refine' WK.DfA.df (WK.dfa_mk KX G ?a ?l ?c ?k (fun _ _ _ _ _ _ us hl => match us, hl with | [_, _], _ => rfl))
      (case a => k_is); (case l => k_is); (case c => k_is); (case k => k_is)
    case D_is_full_chain =>
      refine' WK.DfA.df (WK.dfa_mk KX G ?a ?l ?c ?k (fun _ _ _ _ _ _ us hl => match us, hl with | [_, _], _ => rfl))
      (case a => k_is); (case l => k_is); (case c => k_is); (case k => k_is)
    case D_is_real_rooted =>
      refine' WK.DfA.df (WK.dfa_mk KX G ?a ?l ?c ?k (fun _ _ _ _ _ _ us hl => match us, hl with | [_], _ => rfl))
      (case a => k_is); (case l => k_is); (case c => k_is); (case k => k_is)
    case D_interlaces =>
      refine' WK.DfA.df (WK.dfa_mk KX G ?a ?l ?c ?k (fun _ _ _ _ _ _ us hl => match us, hl with | [_, _], _ => rfl))
      (case a => k_is); (case l => k_is); (case c => k_is); (case k => k_is)
    case D_scaled =>
      refine' WK.DfA.df (WK.dfa_mk KX G ?a ?l ?c ?k (fun _ _ _ _ _ _ us hl => match us, hl with | [_, _], _ => rfl))
      (case a => k_is); (case l => k_is); (case c => k_is); (case k => k_is)
    case D_power =>
      refine' WK.DfA.df (WK.dfa_mk KX G ?a ?l ?c ?k (fun _ _ _ _ _ _ us hl => match us, hl with | [_, _], _ => rfl))
      (case a => k_is); (case l => k_is); (case c => k_is); (case k => k_is)
    case D_value_at =>
      refine' WK.DfA.df (WK.dfa_mk KX G ?a ?l ?c ?k (fun _ _ _ _ _ _ us hl => match us, hl with | [_, _, _], _ => rfl))
      (case a => k_is); (case l => k_is); (case c => k_is); (case k => k_is)
    case D_shifted =>
      refine' WK.DfA.df (WK.dfa_mk KX G ?a ?l ?c ?k (fun _ _ _ _ _ _ us hl => match us, hl with | [_, _], _ => rfl))
      (case a => k_is); (case l => k_is); (case c => k_is); (case k => k_is)
    case D_zeros_ahead =>
      refine' WK.DfA.df (WK.dfa_mk KX G ?a ?l ?c ?k (fun _ _ _ _ _ _ us hl => match us, hl with | [_], _ => rfl))
      (case a => k_is); (case l => k_is); (case c => k_is); (case k => k_is)
    case D_sign_changes =>
      refine' WK.DfA.df (WK.dfa_mk KX G ?a ?l ?c ?k (fun _ _ _ _ _ _ us hl => match us, hl with | [_], _ => rfl))
      (case a => k_is); (case l => k_is); (case c => k_is); (case k => k_is)
    case D_multiplicity =>
      refine' WK.DfA.df (WK.dfa_mk KX G ?a ?l ?c ?k (fun _ _ _ _ _ _ us hl => match us, hl with | [_, _], _ => rfl))
      (case a => k_is); (case l => k_is); (case c => k_is); (case k => k_is)
    case D_roots_from =>
      refine' WK.DfA.df (WK.dfa_mk KX G ?a ?l ?c ?k (fun _ _ _ _ _ _ us hl => match us, hl with | [_, _], _ => rfl))
      (case a => k_is); (case l => k_is); (case c => k_is); (case k => k_is)
    case D_root_floor =>
      refine' WK.DfA.df (WK.dfa_mk KX G ?a ?l ?c ?k (fun _ _ _ _ _ _ us hl => match us, hl with | [_, _, _], _ => rfl))
      (case a => k_is); (case l => k_is); (case c => k_is); (case k => k_is)
    case D_common_divisor =>
      refine' WK.DfA.df (WK.dfa_mk KX G ?a ?l ?c ?k (fun _ _ _ _ _ _ us hl => match us, hl with | [_, _], _ => rfl))
      (case a => k_is); (case l => k_is); (case c => k_is); (case k => k_is)
    case D_told_polynomial =>
      refine' WK.DfA.df (WK.dfa_mk KX G ?a ?l ?c ?k (fun _ _ _ _ _ _ us hl => match us, hl with | [_], _ => rfl))
      (case a => k_is); (case l => k_is); (case c => k_is); (case k => k_is)
    case D_told_edges =>
      refine' WK.DfA.df (WK.dfa_mk KX G ?a ?l ?c ?k (fun _ _ _ _ _ _ us hl => match us, hl with | [_], _ => rfl))
      (case a => k_is); (case l => k_is); (case c => k_is); (case k => k_is)
    case D_counted =>
      refine' WK.DfA.df (WK.dfa_mk KX G ?a ?l ?c ?k (fun _ _ _ _ _ _ us hl => match us, hl with | [_], _ => rfl))
      (case a => k_is); (case l => k_is); (case c => k_is); (case k => k_is)
    case D_longer_paths =>
      refine' WK.DfA.df (WK.dfa_mk KX G ?a ?l ?c ?k (fun _ _ _ _ _ _ us hl => match us, hl with | [_, _], _ => rfl))
      (case a => k_is); (case l => k_is); (case c => k_is); (case k => k_is)
    case D_paths_and_joins =>
      refine' WK.DfA.df (WK.dfa_mk KX G ?a ?l ?c ?k (fun _ _ _ _ _ _ us hl => match us, hl with | [_, _], _ => rfl))
      (case a => k_is); (case l => k_is); (case c => k_is); (case k => k_is)
    case D_count_paths =>
      refine' WK.DfA.df (WK.dfa_mk KX G ?a ?l ?c ?k (fun _ _ _ _ _ _ us hl => match us, hl with | [_, _], _ => rfl))
      (case a => k_is); (case l => k_is); (case c => k_is); (case k => k_is)
    case D_path_tree =>
      refine' WK.DfA.df (WK.dfa_mk KX G ?a ?l ?c ?k (fun _ _ _ _ _ _ us hl => match us, hl with | [_, _], _ => rfl))
      (case a => k_is); (case l => k_is); (case c => k_is); (case k => k_is)
    case D_want =>
      refine' WK.DfA.df (WK.dfa_mk KX G ?a ?l ?c ?k (fun _ _ _ _ _ _ us hl => match us, hl with | [_, _], _ => rfl))
      (case a => k_is); (case l => k_is); (case c => k_is); (case k => k_is)
    case D_want_vertices =>
      refine' WK.DfA.df (WK.dfa_mk KX G ?a ?l ?c ?k (fun _ _ _ _ _ _ us hl => match us, hl with | [_, _], _ => rfl))
      (case a => k_is); (case l => k_is); (case c => k_is); (case k => k_is)
    case D_want_edge =>
      refine' WK.DfA.df (WK.dfa_mk KX G ?a ?l ?c ?k (fun _ _ _ _ _ _ us hl => match us, hl with | [_, _], _ => rfl))
      (case a => k_is); (case l => k_is); (case c => k_is); (case k => k_is)
    case D_want_fraction =>
      refine' WK.DfA.df (WK.dfa_mk KX G ?a ?l ?c ?k (fun _ _ _ _ _ _ us hl => match us, hl with | [_], _ => rfl))
      (case a => k_is); (case l => k_is); (case c => k_is); (case k => k_is)
    case D_list_edges =>
      refine' (WK.dfa_mk KX G ?a ?l ?c ?k (fun _ _ _ _ _ _ us hl => match us, hl with | [_, _], _ => rfl))
      (case a => k_is); (case l => k_is); (case c => k_is); (case k => k_is)
    case D_max_degree =>
      refine' (WK.dfa_mk KX G ?a ?l ?c ?k (fun _ _ _ _ _ _ us hl => match us, hl with | [_, _], _ => rfl))
      (case a => k_is); (case l => k_is); (case c => k_is); (case k => k_is)
    case D_tell_counts =>
      refine' (WK.dfa_mk KX G ?a ?l ?c ?k (fun _ _ _ _ _ _ us hl => match us, hl with | [_, _], _ => rfl))
      (case a => k_is); (case l => k_is); (case c => k_is); (case k => k_is)
    case D_perfect_matchings =>
      refine' (WK.dfa_mk KX G ?a ?l ?c ?k (fun _ _ _ _ _ _ us hl => match us, hl with | [_, _], _ => rfl))
      (case a => k_is); (case l => k_is); (case c => k_is); (case k => k_is)
    case D_tell_polynomial =>
      refine' (WK.dfa_mk KX G ?a ?l ?c ?k (fun _ _ _ _ _ _ us hl => match us, hl with | [_, _], _ => rfl))
      (case a => k_is); (case l => k_is); (case c => k_is); (case k => k_is)
    case D_tell_squared =>
      refine' (WK.dfa_mk KX G ?a ?l ?c ?k (fun _ _ _ _ _ _ us hl => match us, hl with | [_, _], _ => rfl))
      (case a => k_is); (case l => k_is); (case c => k_is); (case k => k_is)
    case D_tell_real_rooted =>
      refine' (WK.dfa_mk KX G ?a ?l ?c ?k (fun _ _ _ _ _ _ us hl => match us, hl with | [_, _], _ => rfl))
      (case a => k_is); (case l => k_is); (case c => k_is); (case k => k_is)
    case D_summary =>
      refine' (WK.dfa_mk KX G ?a ?l ?c ?k (fun _ _ _ _ _ _ us hl => match us, hl with | [_, _], _ => rfl))
      (case a => k_is); (case l => k_is); (case c => k_is); (case k => k_is)
    case D_evaluate =>
      refine' (WK.dfa_mk KX G ?a ?l ?c ?k (fun _ _ _ _ _ _ us hl => match us, hl with | [_, _], _ => rfl))
      (case a => k_is); (case l => k_is); (case c => k_is); (case k => k_is)
    case D_greatest_root =>
      refine' (WK.dfa_mk KX G ?a ?l ?c ?k (fun _ _ _ _ _ _ us hl => match us, hl with | [_, _], _ => rfl))
      (case a => k_is); (case l => k_is); (case c => k_is); (case k => k_is)
    case D_tell_root_floor =>
      refine' (WK.dfa_mk KX G ?a ?l ?c ?k (fun _ _ _ _ _ _ us hl => match us, hl with | [_, _], _ => rfl))
      (case a => k_is); (case l => k_is); (case c => k_is); (case k => k_is)
    case D_check_root_bound =>
      refine' (WK.dfa_mk KX G ?a ?l ?c ?k (fun _ _ _ _ _ _ us hl => match us, hl with | [_, _], _ => rfl))
      (case a => k_is); (case l => k_is); (case c => k_is); (case k => k_is)
    case D_polynomial_without_vertex =>
      refine' (WK.dfa_mk KX G ?a ?l ?c ?k (fun _ _ _ _ _ _ us hl => match us, hl with | [_, _], _ => rfl))
      (case a => k_is); (case l => k_is); (case c => k_is); (case k => k_is)
    case D_polynomial_without_edge =>
      refine' (WK.dfa_mk KX G ?a ?l ?c ?k (fun _ _ _ _ _ _ us hl => match us, hl with | [_, _], _ => rfl))
      (case a => k_is); (case l => k_is); (case c => k_is); (case k => k_is)
    case D_interlaces_without_vertex =>
      refine' (WK.dfa_mk KX G ?a ?l ?c ?k (fun _ _ _ _ _ _ us hl => match us, hl with | [_, _], _ => rfl))
      (case a => k_is); (case l => k_is); (case c => k_is); (case k => k_is)
    case D_complement_counts =>
      refine' (WK.dfa_mk KX G ?a ?l ?c ?k (fun _ _ _ _ _ _ us hl => match us, hl with | [_, _], _ => rfl))
      (case a => k_is); (case l => k_is); (case c => k_is); (case k => k_is)
    case D_complement_formula =>
      refine' (WK.dfa_mk KX G ?a ?l ?c ?k (fun _ _ _ _ _ _ us hl => match us, hl with | [_, _], _ => rfl))
      (case a => k_is); (case l => k_is); (case c => k_is); (case k => k_is)
    case D_tell_paths =>
      refine' (WK.dfa_mk KX G ?a ?l ?c ?k (fun _ _ _ _ _ _ us hl => match us, hl with | [_, _], _ => rfl))
      (case a => k_is); (case l => k_is); (case c => k_is); (case k => k_is)
    case D_path_tree_polynomial =>
      refine' (WK.dfa_mk KX G ?a ?l ?c ?k (fun _ _ _ _ _ _ us hl => match us, hl with | [_, _], _ => rfl))
      (case a => k_is); (case l => k_is); (case c => k_is); (case k => k_is)
    case D_tell_matching =>
      refine' (WK.dfa_mk KX G ?a ?l ?c ?k (fun _ _ _ _ _ _ us hl => match us, hl with | [_, _], _ => rfl))
      (case a => k_is); (case l => k_is); (case c => k_is); (case k => k_is)
    case D_tell_multiplicity =>
      refine' (WK.dfa_mk KX G ?a ?l ?c ?k (fun _ _ _ _ _ _ us hl => match us, hl with | [_, _], _ => rfl))
      (case a => k_is); (case l => k_is); (case c => k_is); (case k => k_is)
    case D_create =>
      refine' (WK.dfa_mk KX G ?a ?l ?c ?k (fun _ _ _ _ _ _ us hl => match us, hl with | [_, _], _ => rfl))
      (case a => k_is); (case l => k_is); (case c => k_is); (case k => k_is)
    case D_add_edge =>
      refine' (WK.dfa_mk KX G ?a ?l ?c ?k (fun _ _ _ _ _ _ us hl => match us, hl with | [_, _], _ => rfl))
      (case a => k_is); (case l => k_is); (case c => k_is); (case k => k_is)
    case D_remove_edge =>
      refine' (WK.dfa_mk KX G ?a ?l ?c ?k (fun _ _ _ _ _ _ us hl => match us, hl with | [_, _], _ => rfl))
      (case a => k_is); (case l => k_is); (case c => k_is); (case k => k_is)
    case D_answer =>
      refine' WK.DfA.df (WK.dfa_mk KX G ?a ?l ?c ?k (fun _ _ _ _ _ _ us hl => match us, hl with | [_, _, _], _ => rfl))
      (case a => k_is); (case l => k_is); (case c => k_is); (case k => k_is)
    case D_degree =>
      refine' WK.dm_mk ⟨by k_is, by k_is, by k_is, by k_is⟩ ?a ?i ?l ?c ?k (fun _ _ _ _ _ _ us hl => match us, hl with | [_, _], _ => rfl)
      (case a => k_is); (case i => k_is); (case l => k_is); (case c => k_is); (case k => k_is)
    case D_greatest_degree =>
      refine' WK.dm_mk ⟨by k_is, by k_is, by k_is, by k_is⟩ ?a ?i ?l ?c ?k (fun _ _ _ _ _ _ us hl => match us, hl with | [_], _ => rfl)
      (case a => k_is); (case i => k_is); (case l => k_is); (case c => k_is); (case k => k_is)
    case D_neighbours =>
      refine' WK.dm_mk ⟨by k_is, by k_is, by k_is, by k_is⟩ ?a ?i ?l ?c ?k (fun _ _ _ _ _ _ us hl => match us, hl with | [_, _], _ => rfl)
      (case a => k_is); (case i => k_is); (case l => k_is); (case c => k_is); (case k => k_is)
    case D_with_edge =>
      refine' WK.dm_mk ⟨by k_is, by k_is, by k_is, by k_is⟩ ?a ?i ?l ?c ?k (fun _ _ _ _ _ _ us hl => match us, hl with | [_, _], _ => rfl)
      (case a => k_is); (case i => k_is); (case l => k_is); (case c => k_is); (case k => k_is)
    case D_without_edge =>
      refine' WK.dm_mk ⟨by k_is, by k_is, by k_is, by k_is⟩ ?a ?i ?l ?c ?k (fun _ _ _ _ _ _ us hl => match us, hl with | [_, _], _ => rfl)
      (case a => k_is); (case i => k_is); (case l => k_is); (case c => k_is); (case k => k_is)
    case D_without_vertex =>
      refine' WK.dm_mk ⟨by k_is, by k_is, by k_is, by k_is⟩ ?a ?i ?l ?c ?k (fun _ _ _ _ _ _ us hl => match us, hl with | [_, _], _ => rfl)
      (case a => k_is); (case i => k_is); (case l => k_is); (case c => k_is); (case k => k_is)
    case D_complement =>
      refine' WK.dm_mk ⟨by k_is, by k_is, by k_is, by k_is⟩ ?a ?i ?l ?c ?k (fun _ _ _ _ _ _ us hl => match us, hl with | [_], _ => rfl)
      (case a => k_is); (case i => k_is); (case l => k_is); (case c => k_is); (case k => k_is)
    case T =>
      refine' ⟨PySem.W.mg_none_of KX G ?n_len, PySem.W.mg_none_of KX G ?n_range, PySem.W.mg_none_of KX G ?n_sorted, PySem.W.mg_none_of KX G ?n_max, PySem.W.mg_none_of KX G ?n_min, PySem.W.mg_none_of KX G ?n_any, PySem.W.mg_none_of KX G ?n_all, PySem.W.mg_none_of KX G ?n_sum, PySem.W.mg_none_of KX G ?n_abs, PySem.W.mg_none_of KX G ?n_int, PySem.W.mg_none_of KX G ?n_list, PySem.W.mg_none_of KX G ?n_enumerate, PySem.W.mg_none_of KX G ?n_zip, PySem.W.mg_none_of KX G ?n_ValueError, ?vV, WK.c_mk KX G ?c_NOT_THERE ?r_NOT_THERE, WK.c_mk KX G ?c_NO_GRAPH ?r_NO_GRAPH, WK.c_mk KX G ?c_EDGE_THERE ?r_EDGE_THERE, WK.c_mk KX G ?c_OUT_OF_RANGE ?r_OUT_OF_RANGE, WK.c_mk KX G ?c_FULL ?r_FULL, WK.c_mk KX G ?c_NO_EDGE ?r_NO_EDGE, WK.c_mk KX G ?c_TOO_LARGE ?r_TOO_LARGE, WK.c_mk KX G ?c_FARTHEST ?r_FARTHEST, WK.c_mk KX G ?c_MOST_VERTICES ?r_MOST_VERTICES, WK.c_mk KX G ?c_MOST_EDGES ?r_MOST_EDGES, WK.c_mk KX G ?c_MOST_NUMERATOR ?r_MOST_NUMERATOR, WK.c_mk KX G ?c_MOST_DENOMINATOR ?r_MOST_DENOMINATOR, WK.c_mk KX G ?c_MOST_BITS ?r_MOST_BITS, WK.c_mk KX G ?c_MOST_PATHS ?r_MOST_PATHS, WK.c_mk KX G ?c_CREATE ?r_CREATE⟩
      (case n_len => k_is)
      (case n_range => k_is)
      (case n_sorted => k_is)
      (case n_max => k_is)
      (case n_min => k_is)
      (case n_any => k_is)
      (case n_all => k_is)
      (case n_sum => k_is)
      (case n_abs => k_is)
      (case n_int => k_is)
      (case n_list => k_is)
      (case n_enumerate => k_is)
      (case n_zip => k_is)
      (case n_ValueError => k_is)
      (case vV => first | k_is | k_exc)
      (case c_NOT_THERE => k_is); (case r_NOT_THERE => exact ⟨_, rfl⟩)
      (case c_NO_GRAPH => k_is); (case r_NO_GRAPH => exact ⟨_, rfl⟩)
      (case c_EDGE_THERE => k_is); (case r_EDGE_THERE => exact ⟨_, rfl⟩)
      (case c_OUT_OF_RANGE => k_is); (case r_OUT_OF_RANGE => exact ⟨_, rfl⟩)
      (case c_FULL => k_is); (case r_FULL => exact ⟨_, rfl⟩)
      (case c_NO_EDGE => k_is); (case r_NO_EDGE => exact ⟨_, rfl⟩)
      (case c_TOO_LARGE => k_is); (case r_TOO_LARGE => exact ⟨_, rfl⟩)
      (case c_FARTHEST => k_is); (case r_FARTHEST => exact ⟨_, rfl⟩)
      (case c_MOST_VERTICES => k_is); (case r_MOST_VERTICES => exact ⟨_, rfl⟩)
      (case c_MOST_EDGES => k_is); (case r_MOST_EDGES => exact ⟨_, rfl⟩)
      (case c_MOST_NUMERATOR => k_is); (case r_MOST_NUMERATOR => exact ⟨_, rfl⟩)
      (case c_MOST_DENOMINATOR => k_is); (case r_MOST_DENOMINATOR => exact ⟨_, rfl⟩)
      (case c_MOST_BITS => k_is); (case r_MOST_BITS => exact ⟨_, rfl⟩)
      (case c_MOST_PATHS => k_is); (case r_MOST_PATHS => exact ⟨_, rfl⟩)
      (case c_CREATE => k_is); (case r_CREATE => exact ⟨_, rfl⟩)
    case RCx =>
      refine' WK.rc_mk KX G ?aC ?xL ?sa ?ga ?gg ?nb ?a1 ?t1 ?l1 ?c1 ?k1 ?kC ?eC ?tC ?hC ?iC ?sC
      (case aC => k_is)
      (case xL => k_is)
      (case sa => k_is)
      (case ga => k_is)
      (case gg => k_is)
      (case nb => k_is)
      (case a1 => k_is)
      (case t1 => k_is)
      (case l1 => k_is)
      (case c1 => k_is)
      (case k1 => k_is)
      (case kC => k_is)
      (case eC => k_is)
      (case tC => k_is)
      (case hC => k_is)
      (case iC => k_is)
      (case sC => first | rfl | k_is)
    case mD => exact PySem.W.mg_of KX G (by k_is)
    case tD =>
      refine' WK.tup_mk ?l ?c ?d ?e
      (case l => k_is)
      (case c => rfl)
      (case d => rfl)
      (case e => rfl)
    case SZ =>
      refine' WK.szs_mk KX G ?m (WK.tup_mk ?l ?c ?d ?e) ?r ?z
      (case m => k_is)
      (case l => k_is)
      (case c => rfl)
      (case d => rfl)
      (case e => rfl)
      (case r => exact .cons ⟨_, rfl⟩ (.cons ⟨_, rfl⟩ (.cons ⟨_, rfl⟩ (.cons ⟨_, rfl⟩ (.cons ⟨_, rfl⟩ (.cons ⟨_, rfl⟩ (.cons ⟨_, rfl⟩ (.cons ⟨_, rfl⟩ (.cons ⟨_, rfl⟩ (.cons ⟨_, rfl⟩ (.cons ⟨_, rfl⟩ (.cons ⟨_, rfl⟩ (.cons ⟨_, rfl⟩ (.cons ⟨_, rfl⟩ (.cons ⟨_, rfl⟩ (.cons ⟨_, rfl⟩ (.cons ⟨_, rfl⟩ (.cons ⟨_, rfl⟩ (.cons ⟨_, rfl⟩ (.cons ⟨_, rfl⟩ (.cons ⟨_, rfl⟩ (.cons ⟨_, rfl⟩ (.cons ⟨_, rfl⟩ (.cons ⟨_, rfl⟩ (.nil)))))))))))))))))))))))))
      (case z => decide)
    case mA => exact PySem.W.mg_of KX G (by k_is)
    case l3 => k_is
    case c3 => k_is
    case k3 => k_is
  case S =>
    intro K H xs a hO hwi hask hx
    cases hx with
    | cons h1 h2 =>
      cases h2
      cases h1 with
      | lst hs ha =>
        have e := L2.ints_dw a.1 _ ha
        subst e
        obtain ⟨k1, k2⟩ := WK.asked_is hask
        exact ⟨_, a.1, _, rfl, hs, k1, k2, fun r H' s hr => by
          obtain ⟨p, rfl, hp⟩ := hr
          exact .lst (L2.SqL.of hp) (L2.dw_ints _)⟩
