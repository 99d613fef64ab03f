import PyProof.Rows.All
import Wide.All
import OpenK.AllK
import Wide.FinOn
import HandS.Base
import HandS.Call
import HandS.List
import HandS.Comp
import HandS.Ends
import HandS.More
import HandS.Words
import HandS.WordsExc
import HandS.Defaults
import HandS.Wide
import HandS.IsInst
import HandS.TupLe
import HandS.NoneIn
import HandS.Evl
import KE.KStateDown
import Lean
import HandS.Head0
import HandS.Head1
import HandS.Head2
import HandS.HeadEnd
import HandS.HeadHook1
import HandS.HeadHook2
import HandS.HeadHook3
import HandS.HeadHook4
import PySem.Challenge.RW_hingedraw_k16_whole_numbers_of_one_field
set_option Elab.async false
set_option linter.all false
set_option maxRecDepth 100000
set_option maxHeartbeats 4000000
/-! Plain mathematics for k16: fractions' sizes, gcd, square roots, numbers a + b * root of w. No program here. -/
namespace K16

/-! ### sizes -/
def Sz (n : Nat) (q : Rat) : Prop := q.num.natAbs < 2 ^ n ∧ q.den < 2 ^ n
theorem Sz.mono {n m : Nat} {q : Rat} (h : Sz n q) (l : n ≤ m) : Sz m q :=
  ⟨Nat.lt_of_lt_of_le h.1 (Nat.pow_le_pow_right (by decide) l), Nat.lt_of_lt_of_le h.2 (Nat.pow_le_pow_right (by decide) l)⟩
theorem Sz.neg {n : Nat} {q : Rat} (h : Sz n q) : Sz n (-q) := ⟨by simpa using h.1, h.2⟩
theorem Sz.abs {n : Nat} {q : Rat} (h : Sz n q) : Sz n q.abs := by
  unfold Rat.abs
  split
  · exact h
  · exact h.neg
theorem gcd_pos {t b : Int} (hb : b ≠ 0) : 0 < Int.gcd t b := Int.gcd_pos_of_ne_zero_right _ hb
theorem Sz.divInt {n : Nat} {t b : Int} (ht : t.natAbs < 2 ^ n) (hb : b.natAbs < 2 ^ n) (hn : 0 < n) : Sz n (Rat.divInt t b) := by
  have two : 1 < 2 ^ n := Nat.one_lt_two_pow (Nat.ne_of_gt hn)
  refine ⟨?_, ?_⟩
  · rw [Rat.num_divInt]
    refine Nat.lt_of_le_of_lt ?_ ht
    by_cases z : b = 0
    · subst z
      simp
    · rw [Int.natAbs_ediv_of_dvd]
      · refine Nat.le_trans (Nat.div_le_self _ _) ?_
        rw [Int.natAbs_mul, Int.natAbs_sign_of_ne_zero z, Nat.one_mul]
        exact Nat.le_refl _
      · exact Int.dvd_mul_of_dvd_right (Int.gcd_dvd_right b t)
  · rw [Rat.den_divInt]
    split
    · exact two
    · exact Nat.lt_of_le_of_lt (Nat.div_le_self _ _) hb
theorem Sz.add {n m : Nat} {a b : Rat} (ha : Sz n a) (hb : Sz m b) : Sz (n + m + 1) (a + b) := by
  rw [Rat.add_def', ← Rat.divInt_ofNat]
  refine Sz.divInt ?_ ?_ (by omega)
  · refine Nat.lt_of_le_of_lt (Int.natAbs_add_le _ _) ?_
    rw [Int.natAbs_mul, Int.natAbs_mul, Nat.pow_succ, Nat.pow_add, Int.natAbs_natCast, Int.natAbs_natCast]
    have h1 : a.num.natAbs * b.den < 2 ^ n * 2 ^ m := Nat.mul_lt_mul'' ha.1 hb.2
    have h2 : b.num.natAbs * a.den < 2 ^ m * 2 ^ n := Nat.mul_lt_mul'' hb.1 ha.2
    rw [Nat.mul_comm (2 ^ m)] at h2
    omega
  · rw [Int.natAbs_natCast, Nat.pow_succ, Nat.pow_add]
    have h1 : a.den * b.den < 2 ^ n * 2 ^ m := Nat.mul_lt_mul'' ha.2 hb.2
    omega
theorem Sz.pos {n : Nat} {q : Rat} (h : Sz n q) : 0 < n := by
  have := q.den_pos
  rcases Nat.eq_zero_or_pos n with z | z
  · subst z
    have := h.2
    omega
  · exact z
theorem Sz.mul {n m : Nat} {a b : Rat} (ha : Sz n a) (hb : Sz m b) : Sz (n + m) (a * b) := by
  rw [Rat.mul_def', ← Rat.divInt_ofNat]
  refine Sz.divInt ?_ ?_ (by have := ha.pos; omega)
  · rw [Int.natAbs_mul, Nat.pow_add]
    exact Nat.mul_lt_mul'' ha.1 hb.1
  · rw [Int.natAbs_natCast, Nat.pow_add]
    exact Nat.mul_lt_mul'' ha.2 hb.2
theorem Sz.inv {n : Nat} {a : Rat} (ha : Sz n a) : Sz n a⁻¹ := by
  rw [Rat.inv_def]
  exact Sz.divInt (by rw [Int.natAbs_natCast]; exact ha.2) ha.1 ha.pos
theorem Sz.sub {n m : Nat} {a b : Rat} (ha : Sz n a) (hb : Sz m b) : Sz (n + m + 1) (a - b) := by
  rw [Rat.sub_eq_add_neg]
  exact ha.add hb.neg
theorem Sz.div {n m : Nat} {a b : Rat} (ha : Sz n a) (hb : Sz m b) : Sz (n + m) (a / b) := by
  rw [Rat.div_def]
  exact ha.mul hb.inv
theorem Sz.zero : Sz 1 (0 : Rat) := ⟨by decide, by decide⟩
theorem Sz.one : Sz 1 (1 : Rat) := ⟨by decide, by decide⟩
theorem den_pos' (q : Rat) : (0 : Int) < (q.den : Int) := by
  have := q.den_pos
  omega
theorem den_ne' (q : Rat) : (q.den : Int) ≠ 0 := by
  have := q.den_pos
  omega

/-! ### the fraction of two whole numbers -/
/-- what ratio divides by -/
def by_ (t b : Int) : Int := if b < 0 then 0 - ((Int.gcd t b : Nat) : Int) else ((Int.gcd t b : Nat) : Int)
theorem by_ne {t b : Int} (hb : b ≠ 0) : by_ t b ≠ 0 := by
  have h := gcd_pos (t := t) hb
  unfold by_
  split <;> omega
theorem by_abs {t b : Int} : (by_ t b).natAbs = Int.gcd t b := by
  unfold by_
  split <;> omega
theorem fdiv_exact {a b c : Int} (hb : b ≠ 0) (h : a = b * c) : a.fdiv b = c := by
  subst h
  rw [Int.mul_fdiv_cancel_left _ hb]
theorem ratio_num {t b : Int} (hb : b ≠ 0) : t.fdiv (by_ t b) = (Rat.divInt t b).num := by
  rw [Rat.num_divInt, Int.gcd_comm]
  obtain ⟨c, hc⟩ := Int.gcd_dvd_left t b
  have hg : ((Int.gcd t b : Nat) : Int) ≠ 0 := by have := gcd_pos (t := t) hb; omega
  refine fdiv_exact (by_ne hb) ?_
  have e : b.sign * t / ((Int.gcd t b : Nat) : Int) = b.sign * c := by
    conv => lhs; lhs; rw [hc]
    rw [← Int.mul_assoc, Int.mul_comm b.sign, Int.mul_assoc, Int.mul_ediv_cancel_left _ hg]
  rw [e]
  conv => lhs; rw [hc]
  unfold by_
  rcases Int.lt_or_gt_of_ne hb with l | l
  · rw [if_pos l, Int.sign_eq_neg_one_of_neg l]
    grind
  · rw [if_neg (by omega), Int.sign_eq_one_of_pos l, Int.one_mul]
theorem ratio_den {t b : Int} (hb : b ≠ 0) : b.fdiv (by_ t b) = ((Rat.divInt t b).den : Int) := by
  rw [Rat.den_divInt, if_neg hb, Int.gcd_comm]
  have hg : ((Int.gcd t b : Nat) : Int) ≠ 0 := by have := gcd_pos (t := t) hb; omega
  obtain ⟨c, hc⟩ := Int.gcd_dvd_right t b
  refine fdiv_exact (by_ne hb) ?_
  have e : ((b.natAbs / Int.gcd t b : Nat) : Int) = c.natAbs := by
    have : b.natAbs = Int.gcd t b * c.natAbs := by
      conv => lhs; rw [hc]
      rw [Int.natAbs_mul, Int.natAbs_natCast]
    rw [this, Nat.mul_div_cancel_left _ (gcd_pos hb)]
  rw [e]
  have gp : (0 : Int) < ((Int.gcd t b : Nat) : Int) := by omega
  unfold by_
  rcases Int.lt_or_gt_of_ne hb with l | l
  · rw [if_pos l]
    have : c < 0 := by
      rcases Int.lt_or_le c 0 with z | z
      · exact z
      · have := Int.mul_nonneg (Int.le_of_lt gp) z
        omega
    conv => lhs; rw [hc]
    rw [show (c.natAbs : Int) = -c by omega]
    grind
  · rw [if_neg (by omega)]
    have : 0 < c := by
      rcases Int.lt_or_le 0 c with z | z
      · exact z
      · have := Int.mul_nonneg (Int.le_of_lt gp) (show 0 ≤ -c by omega)
        have : ((Int.gcd t b : Nat) : Int) * -c = - (((Int.gcd t b : Nat) : Int) * c) := by rw [Int.mul_neg]
        omega
    conv => lhs; rw [hc]
    rw [show (c.natAbs : Int) = c by omega]
theorem gcd_lt {t b : Int} {n : Nat} (hb : b ≠ 0) (h : b.natAbs < 2 ^ n) : (by_ t b).natAbs < 2 ^ n := by
  rw [by_abs]
  refine Nat.lt_of_le_of_lt ?_ h
  exact Nat.le_of_dvd (by omega) (by
    have := Int.gcd_dvd_right t b
    exact Int.natAbs_dvd_natAbs.mpr this)
theorem add_eq (a b : Rat) : Rat.divInt (a.num * b.den + b.num * a.den) (a.den * b.den) = a + b := by
  rw [Rat.add_def', ← Rat.divInt_ofNat, Int.natCast_mul]
theorem mul_eq (a b : Rat) : Rat.divInt (a.num * b.num) (a.den * b.den) = a * b := by
  rw [Rat.mul_def', ← Rat.divInt_ofNat, Int.natCast_mul]
theorem div_eq (a b : Rat) : Rat.divInt (a.num * b.den) (a.den * b.num) = a / b := by
  rw [Rat.div_def, Rat.inv_def]
  conv => rhs; lhs; rw [← Rat.num_divInt_den a]
  rw [Rat.divInt_mul_divInt]
theorem neg_num' (a : Rat) : (0 - a.num) = (-a).num := by simp
theorem abs_num (a : Rat) : (if a.num < 0 then -a.num else a.num) = a.abs.num := by
  unfold Rat.abs
  by_cases h : 0 ≤ a
  · rw [if_pos h, if_neg (by have := Rat.num_nonneg.mpr h; omega)]
  · rw [if_neg h, if_pos (by
      rcases Int.lt_or_le a.num 0 with z | z
      · exact z
      · exact absurd (Rat.num_nonneg.mp z) h)]
    rfl
theorem abs_den (a : Rat) : a.abs.den = a.den := by
  unfold Rat.abs
  split <;> rfl

/-! ### the sign -/
def sg (q : Rat) : Int := if 0 < q then 1 else if q < 0 then -1 else 0
theorem num_pos (q : Rat) : 0 < q.num ↔ 0 < q := by
  have h1 := Rat.num_nonneg (q := q)
  have h2 := Rat.num_eq_zero (q := q)
  constructor
  · intro h
    have : 0 ≤ q := h1.mp (by omega)
    have : q ≠ 0 := fun e => by have := h2.mpr e; omega
    grind
  · intro h
    have a : 0 ≤ q.num := h1.mpr (by grind)
    have b : q.num ≠ 0 := fun e => by have := h2.mp e; grind
    omega
theorem num_neg (q : Rat) : q.num < 0 ↔ q < 0 := by
  have := num_pos (-q)
  rw [Rat.neg_num] at this
  have e : 0 < -q ↔ q < 0 := by grind
  rw [← e, ← this]
  omega
theorem sg_pos {q : Rat} (h : 0 < q) : sg q = 1 := if_pos h
theorem sg_neg' {q : Rat} (h : q < 0) : sg q = -1 := by
  unfold sg
  rw [if_neg (by grind), if_pos h]
theorem sg_zero : sg 0 = 0 := by decide
theorem sg_cases (q : Rat) : (0 < q ∧ sg q = 1) ∨ (q = 0 ∧ sg q = 0) ∨ (q < 0 ∧ sg q = -1) := by
  by_cases h : 0 < q
  · exact .inl ⟨h, sg_pos h⟩
  · by_cases g : q < 0
    · exact .inr (.inr ⟨g, sg_neg' g⟩)
    · have e : q = 0 := by grind
      exact .inr (.inl ⟨e, by rw [e, sg_zero]⟩)
theorem sg_mul (a b : Rat) : sg (a * b) = sg a * sg b := by
  rcases sg_cases a with ⟨ha, ea⟩ | ⟨ha, ea⟩ | ⟨ha, ea⟩ <;> rcases sg_cases b with ⟨hb, eb⟩ | ⟨hb, eb⟩ | ⟨hb, eb⟩ <;> rw [ea, eb]
  · exact sg_pos (Rat.mul_pos ha hb)
  · subst hb; rw [Rat.mul_zero, sg_zero]; rfl
  · refine sg_neg' ?_
    have := Rat.mul_pos ha (show 0 < -b by grind)
    grind
  · subst ha; rw [Rat.zero_mul, sg_zero]; rfl
  · subst ha; rw [Rat.zero_mul, sg_zero]; rfl
  · subst ha; rw [Rat.zero_mul, sg_zero]; rfl
  · refine sg_neg' ?_
    have := Rat.mul_pos (show 0 < -a by grind) hb
    grind
  · subst hb; rw [Rat.mul_zero, sg_zero]; rfl
  · refine sg_pos ?_
    have := Rat.mul_pos (show 0 < -a by grind) (show 0 < -b by grind)
    grind
theorem sg_neg (a : Rat) : sg (-a) = - sg a := by
  have := sg_mul (-1) a
  rw [show (-1 : Rat) * a = -a by grind] at this
  rw [this, show sg (-1) = -1 by decide]
  omega
theorem sg_abs (a : Rat) : (sg a : Rat) * a.abs = a := by
  unfold Rat.abs
  rcases sg_cases a with ⟨ha, ea⟩ | ⟨ha, ea⟩ | ⟨ha, ea⟩ <;> rw [ea] <;> split <;> grind
theorem sg_dom {p q : Rat} (h : q * q < p * p) : sg (p + q) = sg p := by
  have key : 0 < (p - q) * (p + q) := by grind
  rcases sg_cases p with ⟨hp, ep⟩ | ⟨hp, ep⟩ | ⟨hp, ep⟩
  · rw [ep]
    refine sg_pos ?_
    rcases sg_cases (p + q) with ⟨h1, _⟩ | ⟨h1, _⟩ | ⟨h1, _⟩
    · exact h1
    · rw [h1] at key; grind
    · have := Rat.mul_pos (show 0 < p - q by grind) (show 0 < -(p + q) by grind)
      grind
  · subst hp
    have := Rat.mul_nonneg (a := q.abs) (b := q.abs) Rat.abs_nonneg Rat.abs_nonneg
    have e : q.abs * q.abs = q * q := by unfold Rat.abs; split <;> grind
    grind
  · rw [ep]
    refine sg_neg' ?_
    rcases sg_cases (p + q) with ⟨h1, _⟩ | ⟨h1, _⟩ | ⟨h1, _⟩
    · have := Rat.mul_pos (show 0 < -(p - q) by grind) h1
      grind
    · rw [h1] at key; grind
    · exact h1
theorem sq_nonneg (a : Rat) : 0 ≤ a * a := by
  have h := Rat.mul_nonneg (a := a.abs) (b := a.abs) Rat.abs_nonneg Rat.abs_nonneg
  have e : a.abs * a.abs = a * a := by unfold Rat.abs; split <;> grind
  rw [e] at h
  exact h
theorem sq_pos {a : Rat} (h : a ≠ 0) : 0 < a * a := by
  have h1 := sq_nonneg a
  have h2 : a * a ≠ 0 := fun e => by
    rcases Rat.mul_eq_zero.mp e with z | z <;> exact h z
  grind
theorem sq_inj {a b : Rat} (ha : 0 ≤ a) (hb : 0 ≤ b) (h : a * a = b * b) : a = b := by
  have e : (a - b) * (a + b) = 0 := by grind
  rcases Rat.mul_eq_zero.mp e with z | z <;> grind

/-! ### whole roots -/
/-- r is the greatest whole number whose square is at most n -/
def IsRoot (n r : Int) : Prop := 0 ≤ r ∧ r * r ≤ n ∧ n < (r + 1) * (r + 1)
theorem sqI_le {a b : Int} (ha : 0 ≤ a) (hb : 0 ≤ b) (h : a * a ≤ b * b) : a ≤ b := by
  rcases Int.lt_or_le b a with z | z
  · have := Int.mul_lt_mul_of_pos_left z (show 0 < a by omega)
    have := Int.mul_le_mul_of_nonneg_left (Int.le_of_lt z) hb
    rw [Int.mul_comm b a] at this
    omega
  · exact z
theorem IsRoot.eq {n r s : Int} (h : IsRoot n r) (hs : 0 ≤ s) (e : s * s = n) : r = s := by
  have h1 : r ≤ s := sqI_le h.1 hs (by rw [e]; exact h.2.1)
  rcases Int.lt_or_le r s with z | z
  · have := Int.mul_le_mul (show r + 1 ≤ s by omega) (show r + 1 ≤ s by omega) (by have := h.1; omega) hs
    have := h.2.2
    omega
  · omega
/-- one turn of Newton's way -/
theorem newton {n f : Int} (hf : 0 < f) (hn : 0 < n) (h : n < (f + 1) * (f + 1)) : 0 < (f + n / f) / 2 ∧ n < ((f + n / f) / 2 + 1) * ((f + n / f) / 2 + 1) := by
  generalize hq : n / f = q
  have q0 : 0 ≤ q := by rw [← hq]; exact Int.ediv_nonneg (by omega) (by omega)
  have q1 : n < f * (q + 1) := by
    rw [← hq]
    have := Int.lt_mul_ediv_self_add hf (x := n)
    rw [Int.mul_add]
    omega
  have pos : 2 ≤ f + q := by
    rcases Int.lt_or_le 1 f with z | z
    · omega
    · have : f = 1 := by omega
      subst this
      rw [Int.ediv_one] at hq
      omega
  generalize hl : (f + q) / 2 = l
  have l1 : f + q + 1 ≤ 2 * (l + 1) := by omega
  have l0 : 0 < l := by omega
  refine ⟨l0, ?_⟩
  have s1 : (f + q + 1) * (f + q + 1) ≤ (2 * (l + 1)) * (2 * (l + 1)) := Int.mul_le_mul l1 l1 (by omega) (by omega)
  have s2 : 0 ≤ (f - (q + 1)) * (f - (q + 1)) := by
    rcases Int.le_total 0 (f - (q + 1)) with z | z
    · exact Int.mul_nonneg z z
    · exact Int.mul_nonneg_of_nonpos_of_nonpos z z
  grind
theorem newton_end {n f : Int} (hf : 0 < f) (h : n < (f + 1) * (f + 1)) (he : f ≤ (f + n / f) / 2) : IsRoot n f := by
  refine ⟨by omega, ?_, h⟩
  have : f ≤ n / f := by omega
  have := (Int.le_ediv_iff_mul_le hf).mp this
  exact this

/-! ### the root of a fraction -/
theorem root_yes {q : Rat} {s t : Int} (h1 : IsRoot q.num s) (h2 : IsRoot q.den t) (e1 : s * s = q.num) (e2 : t * t = (q.den : Int)) :
    ∃ r : Rat, 0 ≤ r ∧ r * r = q ∧ r.num = s ∧ (r.den : Int) = t := by
  have t0 : t ≠ 0 := fun z => by
    have := den_ne' q
    rw [z] at e2
    omega
  have tp : 0 < t := by have := h2.1; omega
  have cop : Nat.Coprime s.natAbs t.toNat := by
    have r := q.reduced
    have a : q.num.natAbs = s.natAbs * s.natAbs := by rw [← e1, Int.natAbs_mul]
    have b : q.den = t.toNat * t.toNat := by
      have : ((t.toNat * t.toNat : Nat) : Int) = (q.den : Int) := by
        rw [Int.natCast_mul, Int.toNat_of_nonneg (by omega)]
        exact e2
      exact_mod_cast this.symm
    rw [a, b] at r
    exact Nat.Coprime.coprime_mul_right (Nat.Coprime.coprime_mul_right_right r)
  refine ⟨⟨s, t.toNat, by omega, cop⟩, ?_, ?_, rfl, ?_⟩
  · exact Rat.num_nonneg.mp h1.1
  · rw [← mul_eq]
    show Rat.divInt (s * s) (((t.toNat : Nat) : Int) * ((t.toNat : Nat) : Int)) = q
    rw [Int.toNat_of_nonneg (by omega), e1, e2, Rat.num_divInt_den]
  · show ((t.toNat : Nat) : Int) = t
    omega
theorem sq_num (r : Rat) : (r * r).num = r.num * r.num ∧ (r * r).den = r.den * r.den := by
  have h := Rat.mul_def r r
  have c : Nat.Coprime (r.num * r.num).natAbs (r.den * r.den) := by
    rw [Int.natAbs_mul]
    have c := r.reduced
    exact Nat.Coprime.mul_left (Nat.Coprime.mul_right c c) (Nat.Coprime.mul_right c c)
  have e : r * r = ⟨r.num * r.num, r.den * r.den, by have := r.den_nz; exact Nat.mul_ne_zero this this, c⟩ := by
    rw [← mul_eq, ← Int.natCast_mul, ← Rat.mk_eq_divInt]
  rw [e]
  exact ⟨rfl, rfl⟩
theorem root_no {q r : Rat} {s t : Int} (h1 : IsRoot q.num s) (h2 : IsRoot q.den t) (e : r * r = q) : s * s = q.num ∧ t * t = (q.den : Int) := by
  obtain ⟨a, b⟩ := sq_num r
  rw [e] at a b
  have e1 : s = (r.num.natAbs : Int) := h1.eq (by omega) (by rw [a, ← Int.natCast_mul, ← Int.natAbs_mul, Int.natAbs_of_nonneg (by
    rcases Int.le_total 0 r.num with z | z
    · exact Int.mul_nonneg z z
    · exact Int.mul_nonneg_of_nonpos_of_nonpos z z)])
  have e2 : t = (r.den : Int) := h2.eq (by omega) (by rw [b]; exact (Int.natCast_mul _ _).symm)
  refine ⟨?_, ?_⟩
  · rw [e1, a, ← Int.natCast_mul, ← Int.natAbs_mul, Int.natAbs_of_nonneg (by
      rcases Int.le_total 0 r.num with z | z
      · exact Int.mul_nonneg z z
      · exact Int.mul_nonneg_of_nonpos_of_nonpos z z)]
  · rw [e2, b]
    exact (Int.natCast_mul _ _).symm

/-! ### numbers a + b * root of w -/
/-- w is above nought and no square -/
structure Irr (w : Rat) : Prop where
  pos : 0 < w
  no : ∀ r : Rat, r * r ≠ w
structure El where
  a : Rat
  b : Rat
theorem El.ext' {x y : El} (h : x.a = y.a) (g : x.b = y.b) : x = y := by
  cases x; cases y; cases h; cases g; rfl
def El.add (x y : El) : El := ⟨x.a + y.a, x.b + y.b⟩
def El.neg (x : El) : El := ⟨-x.a, -x.b⟩
def El.sub (x y : El) : El := x.add y.neg
def El.mul (w : Rat) (x y : El) : El := ⟨x.a * y.a + x.b * y.b * w, x.a * y.b + y.a * x.b⟩
def El.nrm (w : Rat) (x : El) : Rat := x.a * x.a - x.b * x.b * w
def El.inv (w : Rat) (x : El) : El := ⟨x.a / x.nrm w, -x.b * (1 / x.nrm w)⟩
def El.zero : El := ⟨0, 0⟩
/-- what stands under the root -/
def U (w b : Rat) : Rat := b * b.abs * w
theorem U_zero (w : Rat) : U w 0 = 0 := by unfold U; rw [Rat.zero_mul, Rat.zero_mul]
theorem abs_sq (b : Rat) : b.abs * b.abs = b * b := by unfold Rat.abs; split <;> grind
theorem abs_mul (a b : Rat) : (a * b).abs = a.abs * b.abs := by
  have h := Rat.mul_nonneg (a := a.abs) (b := b.abs) Rat.abs_nonneg Rat.abs_nonneg
  refine sq_inj Rat.abs_nonneg h ?_
  rw [abs_sq]
  have h1 := abs_sq a
  have h2 := abs_sq b
  grind
section
variable {w : Rat}
theorem U_eq_zero (i : Irr w) {b : Rat} : U w b = 0 ↔ b = 0 := by
  have := i.pos
  unfold U
  constructor
  · intro h
    rcases Rat.mul_eq_zero.mp h with z | z
    · rcases Rat.mul_eq_zero.mp z with y | y
      · exact y
      · exact Rat.abs_eq_zero_iff.mp y
    · grind
  · intro h
    subst h
    grind
theorem U_neg (b : Rat) : U w (-b) = - U w b := by
  unfold U
  rw [Rat.abs_neg]
  grind
theorem U_abs (i : Irr w) (b : Rat) : (U w b).abs = b * b * w := by
  unfold U
  rw [abs_mul, abs_mul, Rat.abs_of_nonneg (Rat.abs_nonneg), Rat.abs_of_nonneg (x := w) (by have := i.pos; grind), abs_sq]
theorem U_sg (i : Irr w) (b : Rat) : sg (U w b) = sg b := by
  unfold U
  rw [sg_mul, sg_mul, sg_pos i.pos, Int.mul_one]
  rcases sg_cases b with ⟨h, e⟩ | ⟨h, e⟩ | ⟨h, e⟩
  · rw [e, Rat.abs_of_nonneg (by grind), e]; rfl
  · rw [e]; exact Int.zero_mul _
  · rw [e, Rat.abs_of_nonpos (by grind), sg_neg, e]; rfl
theorem U_grown (b c : Rat) : c * c.abs * U w b = U w (c * b) := by
  unfold U
  rw [abs_mul]
  grind
/-- how many times the root of the one that of the other is -/
theorem U_share (i : Irr w) {b d : Rat} (hb : b ≠ 0) : (d / b).abs * (d / b).abs = (U w d).abs / (U w b).abs := by
  rw [U_abs i, U_abs i, abs_sq]
  have := i.pos
  grind
theorem U_share_sg (i : Irr w) (b d : Rat) : ((sg (U w b) * sg (U w d) : Int) : Rat) * (d / b).abs = d / b := by
  rw [U_sg i, U_sg i]
  have e : sg b * sg d = sg (d / b) := by
    by_cases z : b = 0
    · subst z
      rw [Rat.div_def, Rat.inv_zero, Rat.mul_zero, sg_zero, Int.zero_mul]
    · have h : sg (d / b * b) = sg (d / b) * sg b := sg_mul _ _
      rw [Rat.div_mul_cancel z] at h
      rw [h]
      rcases sg_cases b with ⟨h, e⟩ | ⟨h, e⟩ | ⟨h, e⟩
      · rw [e]; omega
      · exact absurd h z
      · rw [e]; omega
  rw [e]
  exact sg_abs _
/-- no square stands under a root -/
theorem U_nosq (i : Irr w) {b : Rat} (hb : b ≠ 0) : ∀ r : Rat, r * r ≠ (U w b).abs := fun r e => by
  rw [U_abs i] at e
  refine i.no (r / b) ?_
  grind
/-! ### the field -/
theorem nrm_ne (i : Irr w) {x : El} (h : ¬ (x.a = 0 ∧ x.b = 0)) : x.nrm w ≠ 0 := fun e => by
  unfold El.nrm at e
  by_cases hb : x.b = 0
  · rw [hb] at e
    have : x.a * x.a = 0 := by grind
    rcases Rat.mul_eq_zero.mp this with z | z <;> exact h ⟨z, hb⟩
  · refine i.no (x.a / x.b) ?_
    grind
theorem add_comm (x y : El) : x.add y = y.add x := El.ext' (by show _ + _ = _ + _; grind) (by show _ + _ = _ + _; grind)
theorem mul_comm (x y : El) : x.mul w y = y.mul w x := El.ext' (by show _ + _ = _ + _; grind) (by show _ + _ = _ + _; grind)
theorem add_assoc (x y z : El) : (x.add y).add z = x.add (y.add z) := El.ext' (by show _ + _ + _ = _ + (_ + _); grind) (by show _ + _ + _ = _ + (_ + _); grind)
theorem mul_assoc (x y z : El) : (x.mul w y).mul w z = x.mul w (y.mul w z) := by
  unfold El.mul
  exact El.ext' (by dsimp only; grind) (by dsimp only; grind)
theorem mul_add (x y z : El) : x.mul w (y.add z) = (x.mul w y).add (x.mul w z) := by
  unfold El.mul El.add
  exact El.ext' (by dsimp only; grind) (by dsimp only; grind)
theorem add_sub (x y : El) : (x.add y).sub y = x := by
  unfold El.sub El.add El.neg
  exact El.ext' (by dsimp only; grind) (by dsimp only; grind)
theorem sub_add (x y : El) : (x.sub y).add y = x := by
  unfold El.sub El.add El.neg
  exact El.ext' (by dsimp only; grind) (by dsimp only; grind)
theorem over_mul (i : Irr w) {x y : El} (h : ¬ (y.a = 0 ∧ y.b = 0)) : (x.mul w (y.inv w)).mul w y = x := by
  have n := nrm_ne i h
  have e1 : (y.inv w).mul w y = ⟨1, 0⟩ := by
    unfold El.inv El.mul
    generalize hn : y.nrm w = k at n
    unfold El.nrm at hn
    exact El.ext' (by dsimp only; grind) (by dsimp only; grind)
  rw [mul_assoc, e1]
  unfold El.mul
  exact El.ext' (by dsimp only; grind) (by dsimp only; grind)
theorem add_sub_add (x y z : El) : (x.add z).sub (y.add z) = x.sub y := by
  unfold El.sub El.add El.neg
  exact El.ext' (by dsimp only; grind) (by dsimp only; grind)
theorem mul_sub_mul (x y z : El) : (x.mul w z).sub (y.mul w z) = (x.sub y).mul w z := by
  unfold El.sub El.mul El.add El.neg
  exact El.ext' (by dsimp only; grind) (by dsimp only; grind)
theorem sub_neg (x y : El) : y.sub x = (x.sub y).neg := by
  unfold El.sub El.add El.neg
  exact El.ext' (by dsimp only; grind) (by dsimp only; grind)
/-! ### the sign of a + b * root of w, as root_sign reckons it -/
def El.sgn (w : Rat) (x : El) : Int :=
  if sg x.a = sg x.b ∨ sg x.b = 0 then sg x.a else if sg x.a = 0 ∨ x.nrm w < 0 then sg x.b else sg x.a
theorem sg_eq_zero {q : Rat} : sg q = 0 ↔ q = 0 := by
  rcases sg_cases q with ⟨h, e⟩ | ⟨h, e⟩ | ⟨h, e⟩ <;> rw [e] <;> constructor <;> intro z <;> first | exact h | grind
theorem sgn_pos (i : Irr w) {x : El} (h : 0 < x.nrm w) : x.sgn w = sg x.a := by
  unfold El.sgn
  split
  · rfl
  · rw [if_neg]
    rintro (z | z)
    · have := sg_eq_zero.mp z
      unfold El.nrm at h
      rw [this] at h
      have := Rat.mul_nonneg (sq_nonneg x.b) (Rat.le_of_lt i.pos)
      grind
    · grind
theorem sgn_neg (_ : Irr w) {x : El} (h : x.nrm w < 0) : x.sgn w = sg x.b := by
  unfold El.sgn
  split
  · rename_i z
    rcases z with z | z
    · exact z
    · have := sg_eq_zero.mp z
      unfold El.nrm at h
      rw [this] at h
      have := sq_nonneg x.a
      grind
  · rw [if_pos (.inr h)]
theorem sgn_zero (i : Irr w) {x : El} (h : x.nrm w = 0) : x.sgn w = 0 ∧ x.a = 0 ∧ x.b = 0 := by
  have e : x.a = 0 ∧ x.b = 0 := by
    by_cases z : x.a = 0 ∧ x.b = 0
    · exact z
    · exact absurd h (nrm_ne i z)
  refine ⟨?_, e⟩
  unfold El.sgn
  rw [e.1, e.2, sg_zero]
  rfl
theorem nrm_mul (x y : El) : (x.mul w y).nrm w = x.nrm w * y.nrm w := by
  unfold El.nrm El.mul
  grind
theorem mul_lt_mul' {a b c d : Rat} (ha : 0 ≤ a) (hc : 0 ≤ c) (h : a < b) (g : c < d) : a * c < b * d := by
  have h1 : 0 < d := by grind
  have h2 := Rat.mul_lt_mul_of_pos_right h h1
  have h3 := Rat.mul_le_mul_of_nonneg_left (Rat.le_of_lt g) ha
  grind
theorem sgn_mul (i : Irr w) (x y : El) : (x.mul w y).sgn w = x.sgn w * y.sgn w := by
  have wp := i.pos
  have wn := Rat.le_of_lt wp
  have bx := Rat.mul_nonneg (sq_nonneg x.b) wn
  have by' := Rat.mul_nonneg (sq_nonneg y.b) wn
  have ax := sq_nonneg x.a
  have ay := sq_nonneg y.a
  have nm := nrm_mul (w := w) x y
  rcases sg_cases (x.nrm w) with ⟨hx, _⟩ | ⟨hx, _⟩ | ⟨hx, _⟩
  · rcases sg_cases (y.nrm w) with ⟨hy, _⟩ | ⟨hy, _⟩ | ⟨hy, _⟩
    · rw [sgn_pos i hx, sgn_pos i hy, sgn_pos i (by rw [nm]; exact Rat.mul_pos hx hy), ← sg_mul]
      unfold El.nrm at hx hy
      have := mul_lt_mul' bx by' (show x.b * x.b * w < x.a * x.a by grind) (show y.b * y.b * w < y.a * y.a by grind)
      exact sg_dom (p := x.a * y.a) (q := x.b * y.b * w) (by grind)
    · obtain ⟨h0, ha, hb⟩ := sgn_zero i hy
      rw [h0, Int.mul_zero]
      exact (sgn_zero i (by rw [nm, hy, Rat.mul_zero])).1
    · rw [sgn_pos i hx, sgn_neg i hy, sgn_neg i (by
        rw [nm]
        have := Rat.mul_pos hx (show 0 < -(y.nrm w) by grind)
        grind), ← sg_mul]
      unfold El.nrm at hx hy
      have h1 := mul_lt_mul' bx ay (show x.b * x.b * w < x.a * x.a by grind) (show y.a * y.a < y.b * y.b * w by grind)
      have h2 : w * (y.a * x.b * (y.a * x.b)) < w * (x.a * y.b * (x.a * y.b)) := by grind
      exact sg_dom (p := x.a * y.b) (q := y.a * x.b) ((Rat.mul_lt_mul_left wp).mp h2)
  · obtain ⟨h0, ha, hb⟩ := sgn_zero i hx
    rw [h0, Int.zero_mul]
    exact (sgn_zero i (by rw [nm, hx, Rat.zero_mul])).1
  · rcases sg_cases (y.nrm w) with ⟨hy, _⟩ | ⟨hy, _⟩ | ⟨hy, _⟩
    · rw [sgn_neg i hx, sgn_pos i hy, sgn_neg i (by
        rw [nm]
        have := Rat.mul_pos (show 0 < -(x.nrm w) by grind) hy
        grind), ← sg_mul]
      unfold El.nrm at hx hy
      have h1 := mul_lt_mul' ax by' (show x.a * x.a < x.b * x.b * w by grind) (show y.b * y.b * w < y.a * y.a by grind)
      have h2 : w * (x.a * y.b * (x.a * y.b)) < w * (y.a * x.b * (y.a * x.b)) := by grind
      have h3 := sg_dom (p := y.a * x.b) (q := x.a * y.b) ((Rat.mul_lt_mul_left wp).mp h2)
      rw [Rat.mul_comm x.b]
      rw [← h3]
      show sg (x.a * y.b + y.a * x.b) = _
      rw [Rat.add_comm]
    · obtain ⟨h0, ha, hb⟩ := sgn_zero i hy
      rw [h0, Int.mul_zero]
      exact (sgn_zero i (by rw [nm, hy, Rat.mul_zero])).1
    · rw [sgn_neg i hx, sgn_neg i hy, sgn_pos i (by
        rw [nm]
        have := Rat.mul_pos (show 0 < -(x.nrm w) by grind) (show 0 < -(y.nrm w) by grind)
        grind)]
      unfold El.nrm at hx hy
      have h1 := mul_lt_mul' ax ay (show x.a * x.a < x.b * x.b * w by grind) (show y.a * y.a < y.b * y.b * w by grind)
      have h3 := sg_dom (p := x.b * y.b * w) (q := x.a * y.a) (by grind)
      rw [sg_mul, sg_pos wp, Int.mul_one, sg_mul] at h3
      rw [← h3]
      show sg (x.a * y.a + x.b * y.b * w) = _
      rw [Rat.add_comm]
theorem sgn_negE (x : El) : x.neg.sgn w = - x.sgn w := by
  have e : x.neg.nrm w = x.nrm w := by unfold El.nrm El.neg; grind
  unfold El.sgn
  rw [e]
  show (if sg (-x.a) = sg (-x.b) ∨ sg (-x.b) = 0 then sg (-x.a) else if sg (-x.a) = 0 ∨ x.nrm w < 0 then sg (-x.b) else sg (-x.a)) = _
  rw [sg_neg, sg_neg]
  generalize sg x.a = f
  generalize sg x.b = s
  have c1 : (-f = -s ∨ -s = 0) ↔ (f = s ∨ s = 0) := by omega
  have c2 : (-f = 0 ∨ x.nrm w < 0) ↔ (f = 0 ∨ x.nrm w < 0) := by
    constructor <;> (rintro (z | z); exact Or.inl (by omega); exact Or.inr z)
  simp only [c1, c2]
  split
  · rfl
  · split <;> rfl
theorem sgn_cases (x : El) : x.sgn w = 1 ∨ x.sgn w = 0 ∨ x.sgn w = -1 := by
  have s : ∀ q, sg q = 1 ∨ sg q = 0 ∨ sg q = -1 := fun q => by
    rcases sg_cases q with ⟨_, e⟩ | ⟨_, e⟩ | ⟨_, e⟩ <;> rw [e] <;> decide
  unfold El.sgn
  split
  · exact s _
  · split <;> exact s _
end

/-! ### sizes of numbers -/
def ESz (n : Nat) (x : El) : Prop := Sz n x.a ∧ Sz n x.b
theorem ESz.mono {n m : Nat} {x : El} (h : ESz n x) (l : n ≤ m) : ESz m x := ⟨h.1.mono l, h.2.mono l⟩
theorem ESz.add {n : Nat} {x y : El} (h : ESz n x) (g : ESz n y) : ESz (2 * n + 1) (x.add y) :=
  ⟨(h.1.add g.1).mono (by omega), (h.2.add g.2).mono (by omega)⟩
theorem ESz.neg {n : Nat} {x : El} (h : ESz n x) : ESz n x.neg := ⟨h.1.neg, h.2.neg⟩
theorem ESz.sub {n : Nat} {x y : El} (h : ESz n x) (g : ESz n y) : ESz (2 * n + 1) (x.sub y) := h.add g.neg
theorem ESz.mul {n : Nat} {w : Rat} {x y : El} (hw : Sz 7 w) (h : ESz n x) (g : ESz n y) : ESz (4 * n + 8) (x.mul w y) :=
  ⟨((h.1.mul g.1).add ((h.2.mul g.2).mul hw)).mono (by omega), ((h.1.mul g.2).add (g.1.mul h.2)).mono (by omega)⟩
theorem ESz.nrm {n : Nat} {w : Rat} {x : El} (hw : Sz 7 w) (h : ESz n x) : Sz (4 * n + 8) (x.nrm w) :=
  ((h.1.mul h.1).sub ((h.2.mul h.2).mul hw)).mono (by omega)
theorem ESz.inv {n : Nat} {w : Rat} {x : El} (hw : Sz 7 w) (h : ESz n x) : ESz (5 * n + 9) (x.inv w) :=
  ⟨(h.1.div (h.nrm hw)).mono (by omega), (h.2.neg.mul (Sz.one.div (h.nrm hw))).mono (by omega)⟩
theorem U_sz {n : Nat} {w b : Rat} (hw : Sz 7 w) (h : Sz n b) : Sz (2 * n + 7) (U w b) := ((h.mul h.abs).mul hw).mono (by omega)

end K16
namespace K16
/-! ### the loops' turns -/
theorem gcd_abs (a b : Int) : Int.gcd (if a < 0 then -a else a) (if b < 0 then -b else b) = Int.gcd a b := by
  split <;> split <;> simp
theorem gcd_abs1 (a : Int) (b : Nat) : Int.gcd (if a < 0 then -a else a) (b : Int) = Int.gcd a (b : Int) := by
  split <;> simp
theorem gcd_turn {a b : Int} (ha : 0 ≤ a) (hb : 0 < b) : Int.gcd b (a % b) = Int.gcd a b := by
  obtain ⟨m, rfl⟩ := Int.eq_ofNat_of_zero_le ha
  obtain ⟨n, rfl⟩ := Int.eq_ofNat_of_zero_le (Int.le_of_lt hb)
  rw [← Int.natCast_emod]
  show Nat.gcd n (m % n) = Nat.gcd m n
  rw [Nat.gcd_comm m n, Nat.gcd_rec n m, Nat.gcd_comm]
theorem gcd_end {a : Int} (ha : 0 ≤ a) : a = ((Int.gcd a 0 : Nat) : Int) := by
  rw [Int.gcd_zero_right]
  omega
theorem isRoot_ex (n : Nat) : ∃ r : Int, IsRoot (n : Int) r := by
  induction n with
  | zero => exact ⟨0, by decide, by decide, by decide⟩
  | succ n ih =>
    obtain ⟨r, h0, h1, h2⟩ := ih
    by_cases z : ((n + 1 : Nat) : Int) < (r + 1) * (r + 1)
    · exact ⟨r, h0, by omega, z⟩
    · refine ⟨r + 1, by omega, by omega, ?_⟩
      have e : (r + 1 + 1) * (r + 1 + 1) = (r + 1) * (r + 1) + (r + 1) + (r + 1) + 1 := by grind
      omega
theorem isRoot_of {n : Int} (h : 0 ≤ n) : ∃ r : Int, IsRoot n r := by
  obtain ⟨m, rfl⟩ := Int.eq_ofNat_of_zero_le h
  exact isRoot_ex m
theorem isRoot_uniq {n r s : Int} (h : IsRoot n r) (g : IsRoot n s) : r = s := by
  have key : ∀ {r s : Int}, IsRoot n r → IsRoot n s → r ≤ s := fun {r s} h g => by
    rcases Int.lt_or_le s r with z | z
    · have := Int.mul_le_mul (show s + 1 ≤ r by omega) (show s + 1 ≤ r by omega) (by have := g.1; omega) h.1
      have := h.2.1
      have := g.2.2
      omega
    · exact z
  have := key h g
  have := key g h
  omega
end K16

set_option maxHeartbeats 4000000
/-! ### values by kinds: what a value is, stable while no list changes and nothing is lost -/
namespace K16
open PySem PySem.Spec PyProof.Rows L2 Evl

/-- all but plain lists is kept -/
def ExT (H H' : Hp) : Prop := ∀ a o, (∀ xs, o ≠ HO.lst xs) → H a = some o → H' a = some o
theorem ExT.of {H H' : Hp} (e : Ex H H') : ExT H H' := fun a o _ h => e a o h
theorem ExT.refl (H : Hp) : ExT H H := fun _ _ _ h => h
theorem ExT.trans {H H1 H2 : Hp} (a : ExT H H1) (b : ExT H1 H2) : ExT H H2 := fun x o n h => b x o n (a x o n h)
theorem ExT.tup {K : PySem.W.Frag} {H H' : Hp} {a : Addr} {xs : List V} (e : ExT H H') (h : SqT K H a xs) : SqT K H' a xs := by
  rcases h with h | h
  · rcases h with h | ⟨o, h⟩
    · exact .inl (.inl (e a _ (fun _ q => nomatch q) h))
    · exact .inl (.inr ⟨o, e a _ (fun _ q => nomatch q) h⟩)
  · exact .inr h
structure Ty where
  is : V → Hp → Prop
  st : ∀ v H H', ExT H H' → is v H → is v H'
def Ty.c (x : V) : Ty := ⟨fun v _ => v = x, fun _ _ _ _ h => h⟩
def Ty.t2 (K : PySem.W.Frag) (A B : Ty) : Ty :=
  ⟨fun v H => ∃ p x y, v = .ref p ∧ SqT K H p [x, y] ∧ A.is x H ∧ B.is y H, fun _ _ _ e ⟨p, x, y, h1, h2, h3, h4⟩ => ⟨p, x, y, h1, e.tup h2, A.st _ _ _ e h3, B.st _ _ _ e h4⟩⟩
def Ty.fr (K : PySem.W.Frag) (q : Rat) : Ty := .t2 K (.c (.int q.num)) (.c (.int (q.den : Int)))
def Ty.rn (K : PySem.W.Frag) (w : Rat) (x : El) : Ty := .t2 K (.fr K x.a) (.fr K (U w x.b))
theorem Ty.ex (T : Ty) {v : V} {H H' : Hp} (e : Ex H H') (h : T.is v H) : T.is v H' := T.st _ _ _ (.of e) h

/-- te gives something of the kind T, changing nothing -/
def EvP (te : TE) (σ : L2.St) (H : Hp) (T : Ty) : Prop := ∀ H1, Ex H H1 → ∀ Q : VK, (∀ v H2, Ex H1 H2 → T.is v H2 → Q v H2) → te σ H1 Q
section
variable {K : PySem.W.Frag} {σ : L2.St} {H H' : Hp} {ta tb tc te : TE} {t u : TT} {A B C T T' : Ty} {v x y z : V} {r : R2}
theorem EvP.mono (e : Ex H H') (h : EvP te σ H T) : EvP te σ H' T := fun H1 a Q q => h H1 (e.trans a) Q q
theorem EvP.cast (h : EvP te σ H T) (e : T = T') : EvP te σ H T' := e ▸ h
theorem EvP.imp (h : EvP te σ H T) (i : ∀ v H, T.is v H → T'.is v H) : EvP te σ H T' := fun H1 e Q q => h H1 e Q fun v H2 e2 t => q v H2 e2 (i v H2 t)
theorem e_var {i : Nat} (h : σ[i]? = some (some v)) (hv : T.is v H) : EvP (tVar i) σ H T := fun H1 e _ q => ⟨v, h, q v H1 (Ex.refl H1) (T.ex e hv)⟩
theorem e_c : EvP (tC x) σ H (.c x) := fun H1 _ _ q => q x H1 (Ex.refl H1) rfl
theorem e_g (h : T.is x H) : EvP (tC x) σ H T := fun H1 e _ q => q x H1 (Ex.refl H1) (T.ex e h)
theorem e_op (ha : EvP ta σ H A) (hb : EvP tb σ H B) (hr : ∀ x y H1, A.is x H1 → B.is y H1 → ∀ Q : VK, (∀ v H2, Ex H1 H2 → T.is v H2 → Q v H2) → r x y H1 Q) : EvP (tOp r ta tb) σ H T := fun H1 e Q q =>
  ha H1 e _ fun x H2 e2 hx => hb H2 (e.trans e2) _ fun y H3 e3 hy => hr x y H3 (A.ex e3 hx) hy Q fun v H4 e4 ht => q v H4 ((e2.trans e3).trans e4) ht
theorem e_I0 {g : Int → Int → V} {i j : Int} (ha : EvP ta σ H (.c (.int i))) (hb : EvP tb σ H (.c (.int j))) : EvP (tOp (rI0 g) ta tb) σ H (.c (g i j)) :=
  e_op ha hb fun _ _ H1 hx hy _ q => by
    cases hx
    cases hy
    exact ⟨i, j, rfl, rfl, q _ H1 (Ex.refl H1) rfl⟩
theorem e_I {C : Int → Int → Prop} {g : Int → Int → V} {i j : Int} (hc : C i j) (ha : EvP ta σ H (.c (.int i))) (hb : EvP tb σ H (.c (.int j))) : EvP (tOp (rI C g) ta tb) σ H (.c (g i j)) :=
  e_op ha hb fun _ _ H1 hx hy _ q => by
    cases hx
    cases hy
    exact ⟨i, j, rfl, rfl, hc, q _ H1 (Ex.refl H1) rfl⟩
theorem e_eq (hs : scal x y = true) (ha : EvP ta σ H (.c x)) (hb : EvP tb σ H (.c y)) : EvP (tOp rEq ta tb) σ H (.c (.bl (decide (x = y)))) :=
  e_op ha hb fun _ _ H1 hx hy _ q => by
    cases hx
    cases hy
    exact ⟨hs, q _ H1 (Ex.refl H1) rfl⟩
theorem e_ne (hs : scal x y = true) (ha : EvP ta σ H (.c x)) (hb : EvP tb σ H (.c y)) : EvP (tOp rNe ta tb) σ H (.c (.bl (!decide (x = y)))) :=
  e_op ha hb fun _ _ H1 hx hy _ q => by
    cases hx
    cases hy
    exact ⟨hs, q _ H1 (Ex.refl H1) rfl⟩
theorem e_ix0 (ha : EvP ta σ H (.t2 K A B)) : EvP (tOp (rIxT K) ta (tC (.int 0))) σ H A :=
  e_op ha (e_c (x := .int 0)) fun _ _ H1 hx hy _ q => by
    obtain ⟨p, x, y, rfl, hs, h1, _⟩ := hx
    cases hy
    exact ⟨p, [x, y], 0, x, rfl, rfl, hs, rfl, q _ H1 (Ex.refl H1) h1⟩
theorem e_ix1 (ha : EvP ta σ H (.t2 K A B)) : EvP (tOp (rIxT K) ta (tC (.int 1))) σ H B :=
  e_op ha (e_c (x := .int 1)) fun _ _ H1 hx hy _ q => by
    obtain ⟨p, x, y, rfl, hs, _, h1⟩ := hx
    cases hy
    exact ⟨p, [x, y], 1, y, rfl, rfl, hs, rfl, q _ H1 (Ex.refl H1) h1⟩
theorem e_t2 (ha : EvP ta σ H A) (hb : EvP tb σ H B) : EvP (tTup (tCons ta (tCons tb tNil))) σ H (.t2 K A B) := fun H1 e Q q =>
  ha H1 e _ fun x H2 e2 hx => hb H2 (e.trans e2) _ fun y H3 e3 hy => ⟨sz_of (by show 2 ≤ 100000; decide), fun p hp => by
    have e4 := Ex.new (o := HO.tup [x, y]) hp
    exact q (.ref p) _ ((e2.trans e3).trans e4) ⟨p, x, y, rfl, st_of upd_same, A.ex (e3.trans e4) hx, B.ex e4 hy⟩⟩
/-- a built-in of one, two arguments -/
theorem e_cb1 {rc : List V → Hp → VK → Prop} (ha : EvP ta σ H A) (hr : ∀ x H1, A.is x H1 → ∀ Q : VK, (∀ v H2, Ex H1 H2 → T.is v H2 → Q v H2) → rc [x] H1 Q) : EvP (tCB rc (tCons ta tNil)) σ H T := fun H1 e Q q =>
  ha H1 e _ fun x H2 e2 hx => hr x H2 hx Q fun v H3 e3 ht => q v H3 (e2.trans e3) ht
theorem e_cb2 {rc : List V → Hp → VK → Prop} (ha : EvP ta σ H A) (hb : EvP tb σ H B) (hr : ∀ x y H1, A.is x H1 → B.is y H1 → ∀ Q : VK, (∀ v H2, Ex H1 H2 → T.is v H2 → Q v H2) → rc [x, y] H1 Q) :
    EvP (tCB rc (tCons ta (tCons tb tNil))) σ H T := fun H1 e Q q =>
  ha H1 e _ fun x H2 e2 hx => hb H2 (e.trans e2) _ fun y H3 e3 hy => hr x y H3 (A.ex e3 hx) hy Q fun v H4 e4 ht => q v H4 ((e2.trans e3).trans e4) ht
def rAbs : List V → Hp → VK → Prop := fun xs H Q => ∃ i, xs = [.int i] ∧ Q (.int (if i < 0 then -i else i)) H
theorem e_abs {i : Int} (ha : EvP ta σ H (.c (.int i))) : EvP (tCB rAbs (tCons ta tNil)) σ H (.c (.int (if i < 0 then -i else i))) :=
  e_cb1 ha fun _ H1 hx _ q => by
    cases hx
    exact ⟨i, rfl, q _ H1 (Ex.refl H1) rfl⟩
def rInt1 : List V → Hp → VK → Prop := fun xs H Q => (∃ i, xs = [.int i] ∧ Q (.int i) H) ∨ ∃ k, xs = [.bl k] ∧ Q (.int (if k then 1 else 0)) H
theorem e_int {k : Bool} (ha : EvP ta σ H (.c (.bl k))) : EvP (tCB rInt1 (tCons ta tNil)) σ H (.c (.int (if k then 1 else 0))) :=
  e_cb1 ha fun _ H1 hx _ q => by
    cases hx
    exact .inr ⟨k, rfl, q _ H1 (Ex.refl H1) rfl⟩
def rLenQ (K : PySem.W.Frag) : List V → Hp → VK → Prop := fun xs H Q => ∃ p ys, xs = [.ref p] ∧ (SqL K H p ys ∨ SqT K H p ys) ∧ Q (.int ys.length) H
theorem e_len2 (ha : EvP ta σ H (.t2 K A B)) : EvP (tCB (rLenQ K) (tCons ta tNil)) σ H (.c (.int 2)) :=
  e_cb1 ha fun _ H1 hx _ q => by
    obtain ⟨p, x, y, rfl, hs, _, _⟩ := hx
    exact ⟨p, [x, y], rfl, .inr hs, q _ H1 (Ex.refl H1) rfl⟩
theorem tup_tyx {a : Addr} {xs : List V} (h : SqT K H a xs) : TyX K H (.ref a) (.type "tuple") := by
  rcases h with h | ⟨o, its, n, h, hc, _⟩
  · rcases h with h | ⟨o, h⟩
    · exact .base (.tup h)
    · exact .fTuple h
  · exact .kTuple h hc
theorem e_isTup (ha : EvP ta σ H (.t2 K A B)) (hk : PySem.W.kitOne K (.type "tuple") (.type "tuple") = some true) : EvP (tCB (rIsi K) (tCons ta (tCons (tC (.ty "tuple")) tNil))) σ H (.c (.bl true)) :=
  e_cb2 ha (e_c (x := .ty "tuple")) fun _ _ H1 hx hy _ q => by
    obtain ⟨p, x, y, rfl, hs, _, _⟩ := hx
    cases hy
    exact ⟨.ref p, .ty "tuple", .type "tuple", .type "tuple", true, rfl, .ty _, tup_tyx hs, hk, q _ H1 (Ex.refl H1) rfl⟩
theorem e_isInt {i : Int} {n : String} {b : Bool} (ha : EvP ta σ H (.c (.int i))) (hk : PySem.W.kitOne K (.type "int") (.type n) = some b) : EvP (tCB (rIsi K) (tCons ta (tCons (tC (.ty n)) tNil))) σ H (.c (.bl b)) :=
  e_cb2 ha (e_c (x := .ty n)) fun _ _ H1 hx hy _ q => by
    cases hx
    cases hy
    exact ⟨.int i, .ty n, .type "int", .type n, b, rfl, .ty _, .base (.int i), hk, q _ H1 (Ex.refl H1) rfl⟩
def rIsNon : R2 := fun x y H Q => y = .non ∧ Q (.bl (decide (x = .non))) H
theorem e_isN {b : Bool} (ha : EvP ta σ H A) (h : ∀ x H, A.is x H → decide (x = V.non) = b) : EvP (tOp rIsNon ta (tC .non)) σ H (.c (.bl b)) :=
  e_op ha (e_c (x := .non)) fun x _ H1 hx hy _ q => by
    cases hy
    exact ⟨rfl, by rw [h x H1 hx]; exact q _ H1 (Ex.refl H1) rfl⟩
theorem non_t2 {x : V} (h : (Ty.t2 K A B).is x H) : decide (x = V.non) = false := by
  obtain ⟨p, x, y, rfl, _⟩ := h
  rfl
def rIsBl : R2 := fun x y H Q => ∃ a b, x = .bl a ∧ y = .bl b ∧ Q (.bl (decide (a = b))) H
theorem e_isB {a b : Bool} (ha : EvP ta σ H (.c (.bl a))) (hb : EvP tb σ H (.c (.bl b))) : EvP (tOp rIsBl ta tb) σ H (.c (.bl (decide (a = b)))) :=
  e_op ha hb fun _ _ H1 hx hy _ q => by
    cases hx
    cases hy
    exact ⟨a, b, rfl, rfl, q _ H1 (Ex.refl H1) rfl⟩
/-! calls of defs -/
def sp1 {G : Type} (ok : G → Prop) (A R : G → Ty) : Sp := fun vs H Q _ => ∃ g x, ok g ∧ vs = [x] ∧ (A g).is x H ∧ ∀ v H', Ex H H' → (R g).is v H' → Q v H'
def sp2 {G : Type} (ok : G → Prop) (A B R : G → Ty) : Sp := fun vs H Q _ => ∃ g x y, ok g ∧ vs = [x, y] ∧ (A g).is x H ∧ (B g).is y H ∧ ∀ v H', Ex H H' → (R g).is v H' → Q v H'
def sp3 {G : Type} (ok : G → Prop) (A B C R : G → Ty) : Sp := fun vs H Q _ => ∃ g x y z, ok g ∧ vs = [x, y, z] ∧ (A g).is x H ∧ (B g).is y H ∧ (C g).is z H ∧ ∀ v H', Ex H H' → (R g).is v H' → Q v H'
theorem e_call1 {G : Type} {ok : G → Prop} {A R : G → Ty} (g : G) (hok : ok g) (ha : EvP ta σ H (A g)) : EvP (tCall (sp1 ok A R) [] E0 (tCons ta tNil)) σ H (R g) := fun H1 e Q q =>
  ha H1 e _ fun x H2 e2 hx => ⟨g, x, hok, rfl, hx, fun v H3 e3 hv => q v H3 (e2.trans e3) hv⟩
theorem e_call2 {G : Type} {ok : G → Prop} {A B R : G → Ty} (g : G) (hok : ok g) (ha : EvP ta σ H (A g)) (hb : EvP tb σ H (B g)) : EvP (tCall (sp2 ok A B R) [] E0 (tCons ta (tCons tb tNil))) σ H (R g) := fun H1 e Q q =>
  ha H1 e _ fun x H2 e2 hx => hb H2 (e.trans e2) _ fun y H3 e3 hy => ⟨g, x, y, hok, rfl, (A g).ex e3 hx, hy, fun v H4 e4 hv => q v H4 ((e2.trans e3).trans e4) hv⟩
theorem e_call3 {G : Type} {ok : G → Prop} {A B C R : G → Ty} (g : G) (hok : ok g) (ha : EvP ta σ H (A g)) (hb : EvP tb σ H (B g)) (hc : EvP tc σ H (C g)) : EvP (tCall (sp3 ok A B C R) [] E0 (tCons ta (tCons tb (tCons tc tNil)))) σ H (R g) := fun H1 e Q q =>
  ha H1 e _ fun x H2 e2 hx => hb H2 (e.trans e2) _ fun y H3 e3 hy => hc H3 ((e.trans e2).trans e3) _ fun z H4 e4 hz =>
    ⟨g, x, y, z, hok, rfl, (A g).ex (e3.trans e4) hx, (B g).ex e4 hy, hz, fun v H5 e5 hv => q v H5 (((e2.trans e3).trans e4).trans e5) hv⟩
/-! data -/
def Dt (K : PySem.W.Frag) (T : Ty) (d : PyData) : Prop := ∀ v H, T.is v H → Dp K H v d
theorem dt_int {i : Int} : Dt K (.c (.int i)) (.int i) := fun v H h => by
  cases h
  exact .int i
theorem dt_t2 {d e : PyData} (ha : Dt K A d) (hb : Dt K B e) : Dt K (.t2 K A B) (.tuple [d, e]) := fun v H h => by
  obtain ⟨p, x, y, rfl, hs, h1, h2⟩ := h
  exact .tup hs (.cons (ha _ _ h1) (.cons (hb _ _ h2) .nil))
def dfr (q : Rat) : PyData := .tuple [.int q.num, .int (q.den : Int)]
def drn (w : Rat) (x : El) : PyData := .tuple [dfr x.a, dfr (U w x.b)]
theorem dt_fr {q : Rat} : Dt K (.fr K q) (dfr q) := dt_t2 dt_int dt_int
theorem dt_rn {w : Rat} {x : El} : Dt K (.rn K w x) (drn w x) := dt_t2 dt_fr dt_fr
theorem sh_fr (q : Rat) : SeqAt.shaped (dfr q) = true := rfl
theorem sh_rn (w : Rat) (x : El) : SeqAt.shaped (drn w x) = true := rfl
theorem e_eqD {d e : PyData} (da : Dt K A d) (db : Dt K B e) (sd : SeqAt.shaped d = true) (se : SeqAt.shaped e = true) (ha : EvP ta σ H A) (hb : EvP tb σ H B) : EvP (tOp (rEqD K) ta tb) σ H (.c (.bl (PyData.eqv d e))) :=
  e_op ha hb fun _ _ H1 hx hy _ q => ⟨d, e, da _ _ hx, db _ _ hy, sd, se, q _ H1 (Ex.refl H1) rfl⟩
theorem e_neD {d e : PyData} (da : Dt K A d) (db : Dt K B e) (sd : SeqAt.shaped d = true) (se : SeqAt.shaped e = true) (ha : EvP ta σ H A) (hb : EvP tb σ H B) : EvP (tOp (rNeD K) ta tb) σ H (.c (.bl (!PyData.eqv d e))) :=
  e_op ha hb fun _ _ H1 hx hy _ q => ⟨d, e, da _ _ hx, db _ _ hy, sd, se, q _ H1 (Ex.refl H1) rfl⟩
theorem eqv_fr (q r : Rat) : PyData.eqv (dfr q) (dfr r) = decide (q = r) := by
  have e : PyData.eqv (dfr q) (dfr r) = ((q.num == r.num) && (((q.den : Int) == (r.den : Int)) && true)) := rfl
  rw [e]
  by_cases h : q = r
  · subst h
    simp
  · rw [decide_eq_false h]
    have : ¬ (q.num = r.num ∧ q.den = r.den) := fun z => h (Rat.ext z.1 z.2)
    by_cases h1 : q.num = r.num
    · have h2 : ¬ (q.den : Int) = (r.den : Int) := fun z => this ⟨h1, by omega⟩
      rw [beq_eq_false_iff_ne.mpr h2]
      simp
    · rw [beq_eq_false_iff_ne.mpr h1]
      rfl
theorem eqv_rn (w : Rat) (x y : El) : PyData.eqv (drn w x) (drn w y) = (decide (x.a = y.a) && decide (U w x.b = U w y.b)) := by
  have e : PyData.eqv (drn w x) (drn w y) = (PyData.eqv (dfr x.a) (dfr y.a) && (PyData.eqv (dfr (U w x.b)) (dfr (U w y.b)) && true)) := rfl
  rw [e, eqv_fr, eqv_fr, Bool.and_true]
theorem eqv_self (w : Rat) (x : El) : PyData.eqv (drn w x) (drn w x) = true := by
  rw [eqv_rn, decide_eq_true rfl, decide_eq_true rfl]
  rfl
/-! tests -/
theorem t_test {b : Bool} (h : EvP te σ H (.c (.bl b))) : EvT (tTest te) σ H b := fun H1 e _ q => h H1 e _ fun v H2 e2 hv => ⟨b, hv, q H2 e2⟩
theorem t_B {b : Bool} (h : EvP te σ H (.c (.bl b))) : EvT (tB te) σ H b := fun H1 e _ q => h H1 e _ fun v H2 e2 hv => ⟨b, hv, q H2 e2⟩
theorem e_andV {a b : Bool} (h1 : EvP ta σ H (.c (.bl a))) (h2 : a = true → EvP tb σ H (.c (.bl b))) : EvP (tAndV ta tb) σ H (.c (.bl (a && b))) := fun H1 e Q q => h1 H1 e _ fun v H2 e2 hv => ⟨a, hv, by
  cases a with
  | true =>
    show tb σ H2 Q
    exact h2 rfl H2 (e.trans e2) Q fun v H3 e3 hv => q v H3 (e2.trans e3) hv
  | false =>
    show Q (.bl false) H2
    exact q _ H2 e2 rfl⟩
theorem e_orV {a b : Bool} (h1 : EvP ta σ H (.c (.bl a))) (h2 : a = false → EvP tb σ H (.c (.bl b))) : EvP (tOrV ta tb) σ H (.c (.bl (a || b))) := fun H1 e Q q => h1 H1 e _ fun v H2 e2 hv => ⟨a, hv, by
  cases a with
  | true =>
    show Q (.bl true) H2
    exact q _ H2 e2 rfl
  | false =>
    show tb σ H2 Q
    exact h2 rfl H2 (e.trans e2) Q fun v H3 e3 hv => q v H3 (e2.trans e3) hv⟩
theorem e_notV {a : Bool} (h1 : EvP ta σ H (.c (.bl a))) : EvP (tNotV ta) σ H (.c (.bl (!a))) := fun H1 e _ q => h1 H1 e _ fun v H2 e2 hv => ⟨a, hv, q _ H2 e2 rfl⟩
theorem e_if {b : Bool} (h : EvT t σ H b) (h1 : b = true → EvP ta σ H T) (h2 : b = false → EvP tb σ H T) : EvP (tIf t ta tb) σ H T := fun H1 e Q q => h H1 e _ fun H2 e2 => by
  cases b with
  | true =>
    show ta σ H2 Q
    exact h1 rfl H2 (e.trans e2) Q fun v H3 e3 hv => q v H3 (e2.trans e3) hv
  | false =>
    show tb σ H2 Q
    exact h2 rfl H2 (e.trans e2) Q fun v H3 e3 hv => q v H3 (e2.trans e3) hv
/-! statements -/
variable {D : Ends} {tu tw tz : TS}
theorem s_retP (h : EvP te σ H T) (k : ∀ v H', Ex H H' → T.is v H' → D.rt v H') : tRet te D σ H := h H (Ex.refl H) _ k
theorem q_asgP {i : Nat} (h : EvP te σ H T) (k : ∀ v H1, Ex H H1 → T.is v H1 → tz D (σ.set i (some v)) H1) : tSeq (tAsg te (gName i)) tz D σ H := h H (Ex.refl H) _ k
theorem s_asgP {i : Nat} (h : EvP te σ H T) (k : ∀ v H1, Ex H H1 → T.is v H1 → D.nx (σ.set i (some v)) H1) : tAsg te (gName i) D σ H := h H (Ex.refl H) _ k
theorem q_parP {i j : Nat} (ha : EvP ta σ H A) (hb : EvP tb σ H B) (k : ∀ v w H1, Ex H H1 → A.is v H1 → B.is w H1 → tz D ((σ.set i (some v)).set j (some w)) H1) : tSeq (tPar i j (tCons ta (tCons tb tNil))) tz D σ H :=
  ha H (Ex.refl H) _ fun x H1 e1 hx => hb H1 e1 _ fun y H2 e2 hy => ⟨x, y, rfl, k x y H2 (e1.trans e2) (A.ex e2 hx) hy⟩
theorem s_parP {i j : Nat} (ha : EvP ta σ H A) (hb : EvP tb σ H B) (k : ∀ v w H1, Ex H H1 → A.is v H1 → B.is w H1 → D.nx ((σ.set i (some v)).set j (some w)) H1) : tPar i j (tCons ta (tCons tb tNil)) D σ H :=
  ha H (Ex.refl H) _ fun x H1 e1 hx => hb H1 e1 _ fun y H2 e2 hy => ⟨x, y, rfl, k x y H2 (e1.trans e2) (A.ex e2 hx) hy⟩
/-- an if whose answer is known, without else -/
theorem q_whenF (h : EvT t σ H false) (k : ∀ H1, Ex H H1 → tz D σ H1) : tSeq (tIfS t tu tNext) tz D σ H := q_when h (fun z => nomatch z) fun _ => k
theorem q_whenT (h : EvT t σ H true) (k : ∀ H1, Ex H H1 → tu { D with nx := tz D } σ H1) : tSeq (tIfS t tu tNext) tz D σ H := q_when h (fun _ => k) fun z => nomatch z
end
/-! // by any divisor that is not 0 and below 2 ^ 9000 -/
def CDivX (_ j : Int) : Prop := j ≠ 0 ∧ j.natAbs.log2 < 9000
theorem op_fdivX {X : Cx} : OpR X (binaryOp .FloorDiv) (rI CDivX fun i j => .int (i.fdiv j)) := opI fun _ _ _ _ _ _ _ hc q => floordiv_int hc.1 q (.inl (PyProof.noPylong_of_log2 hc.2))
theorem divX {i j : Int} {b : Nat} (h : j ≠ 0) (hb : j.natAbs < 2 ^ b) (h0 : 0 < b) (h9 : b ≤ 9000) : CDivX i j := ⟨h, Nat.lt_of_lt_of_le (PySem.Flt.log2_lt_of h0 hb) h9⟩
end K16

set_option maxHeartbeats 0
/-! ### the text by places; the head: facts by names, the run -/
namespace K16
open PySem PySem.Spec PyProof.Rows L2
def top (i : Nat) : Stmt := PySem.Challenge.pw_hingedraw_k16_whole_numbers_of_one_field.main.body.getD i (.Pass ⟨0, 0, 0, 0⟩)
def d_divisor : He.DefD := ⟨("divisor", none), "divisor", "divisor", defArgs (top 8), defBody (top 8), defScope (top 8), [], []⟩
def d_ratio : He.DefD := ⟨("ratio", none), "ratio", "ratio", defArgs (top 9), defBody (top 9), defScope (top 9), [], []⟩
def d_plus : He.DefD := ⟨("plus", none), "plus", "plus", defArgs (top 10), defBody (top 10), defScope (top 10), [], []⟩
def d_negated : He.DefD := ⟨("negated", none), "negated", "negated", defArgs (top 11), defBody (top 11), defScope (top 11), [], []⟩
def d_minus : He.DefD := ⟨("minus", none), "minus", "minus", defArgs (top 12), defBody (top 12), defScope (top 12), [], []⟩
def d_times : He.DefD := ⟨("times", none), "times", "times", defArgs (top 13), defBody (top 13), defScope (top 13), [], []⟩
def d_over : He.DefD := ⟨("over", none), "over", "over", defArgs (top 14), defBody (top 14), defScope (top 14), [], []⟩
def d_sign_of : He.DefD := ⟨("sign_of", none), "sign_of", "sign_of", defArgs (top 15), defBody (top 15), defScope (top 15), [], []⟩
def d_size_of : He.DefD := ⟨("size_of", none), "size_of", "size_of", defArgs (top 16), defBody (top 16), defScope (top 16), [], []⟩
def d_whole_root : He.DefD := ⟨("whole_root", none), "whole_root", "whole_root", defArgs (top 17), defBody (top 17), defScope (top 17), [], []⟩
def d_root_in : He.DefD := ⟨("root_in", none), "root_in", "root_in", defArgs (top 18), defBody (top 18), defScope (top 18), [], []⟩
def d_is_whole : He.DefD := ⟨("is_whole", none), "is_whole", "is_whole", defArgs (top 21), defBody (top 21), defScope (top 21), [], []⟩
def d_is_fraction : He.DefD := ⟨("is_fraction", none), "is_fraction", "is_fraction", defArgs (top 22), defBody (top 22), defScope (top 22), [], []⟩
def d_divisor_of : He.DefD := ⟨("divisor_of", none), "divisor_of", "divisor_of", defArgs (top 23), defBody (top 23), defScope (top 23), [], []⟩
def d_is_number : He.DefD := ⟨("is_number", none), "is_number", "is_number", defArgs (top 24), defBody (top 24), defScope (top 24), [], []⟩
def d_is_plain : He.DefD := ⟨("is_plain", none), "is_plain", "is_plain", defArgs (top 25), defBody (top 25), defScope (top 25), [], []⟩
def d_made : He.DefD := ⟨("made", none), "made", "made", defArgs (top 26), defBody (top 26), defScope (top 26), [], []⟩
def d_root_of : He.DefD := ⟨("root_of", none), "root_of", "root_of", defArgs (top 27), defBody (top 27), defScope (top 27), [], []⟩
def d_under_grown : He.DefD := ⟨("under_grown", none), "under_grown", "under_grown", defArgs (top 28), defBody (top 28), defScope (top 28), [], []⟩
def d_share_of : He.DefD := ⟨("share_of", none), "share_of", "share_of", defArgs (top 29), defBody (top 29), defScope (top 29), [], []⟩
def d_root_plus : He.DefD := ⟨("root_plus", none), "root_plus", "root_plus", defArgs (top 30), defBody (top 30), defScope (top 30), [], []⟩
def d_root_negated : He.DefD := ⟨("root_negated", none), "root_negated", "root_negated", defArgs (top 31), defBody (top 31), defScope (top 31), [], []⟩
def d_root_minus : He.DefD := ⟨("root_minus", none), "root_minus", "root_minus", defArgs (top 32), defBody (top 32), defScope (top 32), [], []⟩
def d_root_times : He.DefD := ⟨("root_times", none), "root_times", "root_times", defArgs (top 33), defBody (top 33), defScope (top 33), [], []⟩
def d_root_over : He.DefD := ⟨("root_over", none), "root_over", "root_over", defArgs (top 34), defBody (top 34), defScope (top 34), [], []⟩
def d_root_sign : He.DefD := ⟨("root_sign", none), "root_sign", "root_sign", defArgs (top 35), defBody (top 35), defScope (top 35), [], []⟩
def d_root_less : He.DefD := ⟨("root_less", none), "root_less", "root_less", defArgs (top 36), defBody (top 36), defScope (top 36), [], []⟩
def d_law_cell_at : He.DefD := ⟨("_law_cell_at", none), "_law_cell_at", "_law_cell_at", defArgs (top 38), defBody (top 38), defScope (top 38), [], []⟩
def d_law_state : He.DefD := ⟨("_law_state", none), "_law_state", "_law_state", defArgs (top 39), defBody (top 39), defScope (top 39), [], []⟩
def d_law_take : He.DefD := ⟨("_law_take", none), "_law_take", "_law_take", defArgs (top 40), defBody (top 40), defScope (top 40), [], []⟩
def d_law_divisor : He.DefD := ⟨("_law_divisor", none), "_law_divisor", "_law_divisor", defArgs (top 41), defBody (top 41), defScope (top 41), [], []⟩
def d_law_ratio : He.DefD := ⟨("_law_ratio", none), "_law_ratio", "_law_ratio", defArgs (top 42), defBody (top 42), defScope (top 42), [], []⟩
def d_law_times : He.DefD := ⟨("_law_times", none), "_law_times", "_law_times", defArgs (top 45), defBody (top 45), defScope (top 45), [], []⟩
def d_law_small : He.DefD := ⟨("_law_small", none), "_law_small", "_law_small", defArgs (top 47), defBody (top 47), defScope (top 47), [], []⟩
def d_law_open : He.DefD := ⟨("_law_open", none), "_law_open", "_law_open", defArgs (top 48), defBody (top 48), defScope (top 48), [], []⟩
def d_law_as_number : He.DefD := ⟨("_law_as_number", none), "_law_as_number", "_law_as_number", defArgs (top 49), defBody (top 49), defScope (top 49), [], []⟩
def d_law_both : He.DefD := ⟨("_law_both", none), "_law_both", "_law_both", defArgs (top 53), defBody (top 53), defScope (top 53), [], []⟩
def d_law_groups : He.DefD := ⟨("_law_groups", none), "_law_groups", "_law_groups", defArgs (top 54), defBody (top 54), defScope (top 54), [], []⟩
def d_law_goes_back : He.DefD := ⟨("_law_goes_back", none), "_law_goes_back", "_law_goes_back", defArgs (top 55), defBody (top 55), defScope (top 55), [], []⟩
def d_law_in_order : He.DefD := ⟨("_law_in_order", none), "_law_in_order", "_law_in_order", defArgs (top 56), defBody (top 56), defScope (top 56), [], []⟩
def d_law : He.DefD := ⟨("law", none), "law", "law", defArgs (top 57), defBody (top 57), defScope (top 57), [], []⟩
def fnList : List He.DefD := [d_divisor, d_ratio, d_plus, d_negated, d_minus, d_times, d_over, d_sign_of, d_size_of, d_whole_root, d_root_in, d_is_whole, d_is_fraction, d_divisor_of, d_is_number, d_is_plain, d_made, d_root_of, d_under_grown, d_share_of, d_root_plus, d_root_negated, d_root_minus, d_root_times, d_root_over, d_root_sign, d_root_less, d_law_cell_at, d_law_state, d_law_take, d_law_divisor, d_law_ratio, d_law_times, d_law_small, d_law_open, d_law_as_number, d_law_both, d_law_groups, d_law_goes_back, d_law_in_order, d_law]
def faList : List He.Fa := [.glo "divisor", .glo "ratio", .glo "plus", .glo "negated", .glo "minus", .glo "times", .glo "over", .glo "sign_of", .glo "size_of", .glo "whole_root", .glo "root_in", .glo "is_whole", .glo "is_fraction", .glo "divisor_of", .glo "is_number", .glo "is_plain", .glo "made", .glo "root_of", .glo "under_grown", .glo "share_of", .glo "root_plus", .glo "root_negated", .glo "root_minus", .glo "root_times", .glo "root_over", .glo "root_sign", .glo "root_less", .glo "_law_cell_at", .glo "_law_state", .glo "_law_take", .glo "_law_divisor", .glo "_law_ratio", .glo "_law_times", .glo "_law_small", .glo "_law_open", .glo "_law_as_number", .glo "_law_both", .glo "_law_groups", .glo "_law_goes_back", .glo "_law_in_order", .glo "law", .glo "ZERO", .glo "ONE", .glo "NOUGHT", .free "abs", .free "int", .free "isinstance", .free "len", .free "min", .free "max", .free "range", .free "bool", .free "tuple"]
def exB (K : PySem.W.Frag) : Bool := He.tupB K "ZERO" [.int 0, .int 1] && (He.tupB K "ONE" [.int 1, .int 1] && He.tupB K "NOUGHT" [.glo "ZERO", .glo "ZERO"])
def loose1 : List Str := ["RodError", "NoQuotient", "NoField", "NoRoot", "ZERO", "ONE", "divisor", "ratio", "plus", "negated", "minus", "times", "over", "sign_of", "size_of", "whole_root", "root_in", "NOUGHT", "is_whole", "is_fraction", "divisor_of", "is_number", "is_plain", "made", "root_of", "under_grown", "share_of", "root_plus", "root_negated", "root_minus"]
def loose2 : List Str := ["root_times", "root_over", "root_sign", "root_less", "_law_cell_at", "_law_state", "_law_take", "_law_divisor", "_law_ratio", "_law_plus", "_law_minus", "_law_times", "_law_over", "_law_small", "_law_open", "_law_as_number", "_law_both_plus", "_law_both_minus", "_law_both_times", "_law_both", "_law_groups", "_law_goes_back", "_law_in_order"]
abbrev R : PySem.W.OpenRow := PySem.W.OpenLaw.row PySem.Challenge.rw_hingedraw_k16_whole_numbers_of_one_field
abbrev hk : PySem.W.Hook := He.hookX 4 faList fnList [] [] exB
def ob (s : PySem.W.SharedT) : He.AlX := He.obsX 4 faList fnList [] [] exB (HandSHeadRun.getT s)
theorem ob_eq (s : PySem.W.SharedT) : ob s = hk.obs s.abs := He.obsX_eq (HandSHeadRun.getT_eq s)
theorem run (w : World) : HandSHeadRun.RunEq R (PySem.W.view R.prog [57]) hk ob 4000 (loose1 ++ loose2) w := by
  intro os
  kernel_rfl
end K16

set_option maxHeartbeats 4000000
set_option exponentiation.threshold 10000
/-! ### fractions, def by def -/
namespace K16
open PySem PySem.Spec PyProof.Rows L2 Evl

structure Txt (K : PySem.W.Frag) (mg : Str → Option Value) (z o n : Addr) : Prop where
  abs : mg "abs" = none
  int : mg "int" = none
  isi : mg "isinstance" = none
  len : mg "len" = none
  min : mg "min" = none
  max : mg "max" = none
  range : mg "range" = none
  bool : mg "bool" = none
  tuple : mg "tuple" = none
  zero : mg "ZERO" = some (.ref z)
  one : mg "ONE" = some (.ref o)
  nought : mg "NOUGHT" = some (.ref n)
  tz : ∀ H, (Ty.fr K 0).is (.ref z) H
  to : ∀ H, (Ty.fr K 1).is (.ref o) H
  tn : ∀ H, SqT K H n [.ref z, .ref z]
/-- a def as the top leaves it -/
structure At (K : PySem.W.Frag) (mg : Str → Option Value) (x : Str) (i : Nat) (f : Addr) (fd : FuncData) : Prop where
  F : FunD K x x (defArgs (top i)) (defBody (top i)) (defScope (top i)) [] [] f fd
  g : mg x = some (.ref f)
/-- a def that keeps its promise -/
structure Ok (P : Program) (w : World) (K : PySem.W.Frag) (mg : Str → Option Value) (base : Heap) (k : Nat) (x : Str) (ps : List Str) (sp : Sp) (f : Addr) (fd : FuncData) : Prop where
  g : mg x = some (.ref f)
  kp : PySem.W.keepIn K (.ref f) = true
  b : Binds K fd ps []
  ok : FnOk P w K mg base CX0 k f fd ps sp

/-! short terms -/
section
variable {X : Cx} {e e2 : Expr} {t u : TE} {pos : Pos}
theorem pIx0 {j : Nat} {p : Pos} (h : PE X e t) : PE X (.Subscript e (.Constant (.int 0) j p) pos) (tOp (rIxT X.K) t (tC (.int 0))) := pe_ix ix_tup h pe_int (fun _ _ => rfl)
theorem pIx1 {j : Nat} {p : Pos} (h : PE X e t) : PE X (.Subscript e (.Constant (.int 1) j p) pos) (tOp (rIxT X.K) t (tC (.int 1))) := pe_ix ix_tup h pe_int (fun _ _ => rfl)
theorem pT2 {k : Nat} (h : PE X e t) (g : PE X e2 u) (hs : starEach [e, e2] X.env = (false, eval e X.env) :: starEach [e2] X.env := by rfl) (hs2 : starEach [e2] X.env = (false, eval e2 X.env) :: starEach [] X.env := by rfl) : PE X (.Tuple [e, e2] k pos) (tTup (tCons t (tCons u tNil))) :=
  pe_tup (pa_cons h (pa_cons g pa_nil hs2) hs)
theorem pMul (h : PE X e t) (g : PE X e2 u) : PE X (.BinOp e .Mult e2 pos) (tOp (rI CMulW fun i j => .int (i * j)) t u) := pe_op op_mulW h g
theorem pAdd (h : PE X e t) (g : PE X e2 u) : PE X (.BinOp e .Add e2 pos) (tOp (rI0 fun i j => .int (i + j)) t u) := pe_op op_add h g
theorem pSub (h : PE X e t) (g : PE X e2 u) : PE X (.BinOp e .Sub e2 pos) (tOp (rI0 fun i j => .int (i - j)) t u) := pe_op op_sub h g
theorem pDivX (h : PE X e t) (g : PE X e2 u) : PE X (.BinOp e .FloorDiv e2 pos) (tOp (rI CDivX fun i j => .int (i.fdiv j)) t u) := pe_op op_fdivX h g
theorem pDivW (h : PE X e t) (g : PE X e2 u) : PE X (.BinOp e .FloorDiv e2 pos) (tOp (rI CDivW fun i j => .int (i / j)) t u) := pe_op op_fdivW h g
theorem pMod (h : PE X e t) (g : PE X e2 u) : PE X (.BinOp e .Mod e2 pos) (tOp (rI (fun _ j => 0 < j) fun i j => .int (i % j)) t u) := pe_op op_mod h g
theorem pAbs {p : Pos} (hm : X.mg "abs" = none) (h : PE X e t) (hg : Gl X "abs" := by rfl) (hs : starEach [e] X.env = (false, eval e X.env) :: starEach [] X.env := by rfl) : PE X (.Call (.Name "abs" p) [e] [] pos) (tCB rAbs (tCons t tNil)) :=
  pe_callB call_abs hg hm (by decide +kernel) (pa_cons h pa_nil hs) (he := hs)
theorem pInt {p : Pos} (hm : X.mg "int" = none) (h : PE X e t) (hg : Gl X "int" := by rfl) (hs : starEach [e] X.env = (false, eval e X.env) :: starEach [] X.env := by rfl) : PE X (.Call (.Name "int" p) [e] [] pos) (tCB rInt1 (tCons t tNil)) :=
  pe_callTy call_int1 hg hm (by decide +kernel) (pa_cons h pa_nil hs) (he := hs)
theorem qGt (h : PE X e t) (g : PE X e2 u) : PT X (.Compare e [.Gt] [e2] pos) (tTest (tOp (rI0 fun i j => .bl (decide (j < i))) t u)) := pt_cmpR op_gt h g (nomark _)
theorem qLt (h : PE X e t) (g : PE X e2 u) : PT X (.Compare e [.Lt] [e2] pos) (tTest (tOp (rI0 fun i j => .bl (decide (i < j))) t u)) := pt_cmpR op_lt h g (nomark _)
theorem vGt (h : PE X e t) (g : PE X e2 u) : PE X (.Compare e [.Gt] [e2] pos) (tOp (rI0 fun i j => .bl (decide (j < i))) t u) := pe_cmpR op_gt h g (nomark _)
theorem vLt (h : PE X e t) (g : PE X e2 u) : PE X (.Compare e [.Lt] [e2] pos) (tOp (rI0 fun i j => .bl (decide (i < j))) t u) := pe_cmpR op_lt h g (nomark _)
theorem qEq (h : PE X e t) (g : PE X e2 u) : PT X (.Compare e [.Eq] [e2] pos) (tTest (tOp rEq t u)) := pt_cmpR op_eq h g (nomark _)
theorem qNe (h : PE X e t) (g : PE X e2 u) : PT X (.Compare e [.NotEq] [e2] pos) (tTest (tOp rNe t u)) := pt_cmpR op_ne h g (nomark _)
end
section
variable {K : PySem.W.Frag} {σ : L2.St} {H : Hp} {te : TE} {t : TT} {tz : TS} {D : Ends}
theorem q_ifAsgP {b : Bool} {i : Nat} {v0 v1 : V} (h : EvT t σ H b) (h1 : b = true → EvP te σ H (.c v1)) (h2 : σ.set i (some v0) = σ) (k : ∀ H1, Ex H H1 → tz D (σ.set i (some (if b then v1 else v0))) H1) : tSeq (tIfS t (tAsg te (gName i)) tNext) tz D σ H :=
  q_when h (fun hb H1 e1 => s_asgP (D := { D with nx := tz D }) ((h1 hb).mono e1) fun v H2 e2 hv => by
    have g := k H2 (e1.trans e2)
    rw [if_pos hb] at g
    cases hv
    exact g) (fun hb H1 e1 => by
    have g := k H1 e1
    rw [if_neg (by rw [hb]; decide), h2] at g
    exact g)
end

section
variable {X : Cx} {e e2 e3 : Expr} {t u v : TE} {pos p : Pos} {j k : Nat} {x : Str} {ps : List Str} {sp : Sp} {f : Addr} {fd : FuncData}
theorem pCall1 (O : Ok X.prog X.w X.K X.mg X.base j x ps sp f fd) (hr : Room k X.A) (h : PE X e t) (hk : j ≤ k := by decide) (hg : Gl X x := by rfl) (hd : (x == ("__debug__" : Str)) = false := by decide)
    (hs : starEach [e] X.env = (false, eval e X.env) :: starEach [] X.env := by rfl) : PE X (.Call (.Name x p) [e] [] pos) (tCall sp [] E0 (tCons t tNil)) :=
  pe_call O.ok (hr.mono hk) hg O.g O.kp O.b .nil pass0 (pa_cons h pa_nil hs) (hdb := hd) (he := hs)
theorem pCall2 (O : Ok X.prog X.w X.K X.mg X.base j x ps sp f fd) (hr : Room k X.A) (h : PE X e t) (h2 : PE X e2 u) (hk : j ≤ k := by decide) (hg : Gl X x := by rfl) (hd : (x == ("__debug__" : Str)) = false := by decide)
    (hs : starEach [e, e2] X.env = (false, eval e X.env) :: starEach [e2] X.env := by rfl) (hs2 : starEach [e2] X.env = (false, eval e2 X.env) :: starEach [] X.env := by rfl) (hp : (backTo pos (starEach [e2] X.env)).any (·.1) = false := by rfl) : PE X (.Call (.Name x p) [e, e2] [] pos) (tCall sp [] E0 (tCons t (tCons u tNil))) :=
  pe_call O.ok (hr.mono hk) hg O.g O.kp O.b .nil pass0 (pa_cons h (pa_cons h2 pa_nil hs2) hs) (hdb := hd) (he := hs) (hpl := hp)
theorem pCall3 (O : Ok X.prog X.w X.K X.mg X.base j x ps sp f fd) (hr : Room k X.A) (h : PE X e t) (h2 : PE X e2 u) (h3 : PE X e3 v) (hk : j ≤ k := by decide) (hg : Gl X x := by rfl) (hd : (x == ("__debug__" : Str)) = false := by decide)
    (hs : starEach [e, e2, e3] X.env = (false, eval e X.env) :: starEach [e2, e3] X.env := by rfl) (hs2 : starEach [e2, e3] X.env = (false, eval e2 X.env) :: starEach [e3] X.env := by rfl) (hs3 : starEach [e3] X.env = (false, eval e3 X.env) :: starEach [] X.env := by rfl) (hp : (backTo pos (starEach [e2, e3] X.env)).any (·.1) = false := by rfl) :
    PE X (.Call (.Name x p) [e, e2, e3] [] pos) (tCall sp [] E0 (tCons t (tCons u (tCons v tNil)))) :=
  pe_call O.ok (hr.mono hk) hg O.g O.kp O.b .nil pass0 (pa_cons h (pa_cons h2 (pa_cons h3 pa_nil hs3) hs2) hs) (hdb := hd) (he := hs) (hpl := hp)
end

section
variable {P : Program} {wd : World} {K : PySem.W.Frag} {mg : Str → Option Value} {base : Heap} {z o n : Addr}
/-! #### divisor -/
abbrev spGcd : Sp := sp2 (G := Int × Int) (fun _ => True) (fun g => .c (.int g.1)) (fun g => .c (.int g.2)) (fun g => .c (.int ((Int.gcd g.1 g.2 : Nat) : Int)))
theorem len2 {G : Type} {ok : G → Prop} {A B R : G → Ty} {a b : Str} : ∀ vs H Q E, sp2 ok A B R vs H Q E → vs.length = [a, b].length := fun vs H Q E h => by
  obtain ⟨g, x, y, _, rfl, _⟩ := h
  rfl
theorem len1 {G : Type} {ok : G → Prop} {A R : G → Ty} {a : Str} : ∀ vs H Q E, sp1 ok A R vs H Q E → vs.length = [a].length := fun vs H Q E h => by
  obtain ⟨g, x, _, rfl, _⟩ := h
  rfl
theorem len3 {G : Type} {ok : G → Prop} {A B C R : G → Ty} {a b c : Str} : ∀ vs H Q E, sp3 ok A B C R vs H Q E → vs.length = [a, b, c].length := fun vs H Q E h => by
  obtain ⟨g, x, y, z, _, rfl, _⟩ := h
  rfl
theorem u_gcd {σ : L2.St} {H : Hp} {ta tb : TE} {a b : Int} (ha : EvP ta σ H (.c (.int a))) (hb : EvP tb σ H (.c (.int b))) : EvP (tCall spGcd [] E0 (tCons ta (tCons tb tNil))) σ H (.c (.int ((Int.gcd a b : Nat) : Int))) := e_call2 (a, b) trivial ha hb
/-- Euclid's loop -/
theorem gcd_loop {D : Ends} {σ : L2.St} {H : Hp} {a b : Int} {tz : TS} (ha : 0 ≤ a) (hb : 0 ≤ b) (hσ : σ = [some (.int a), some (.int b)])
    (k : ∀ H1 v, Ex H H1 → tz D [some (.int ((Int.gcd a b : Nat) : Int)), v] H1) :
    tSeq (tWhile (tTest (tOp (rI0 fun i j => .bl (decide (j < i))) (tVar 1) (tC (.int 0)))) (tPar 0 1 (tCons (tVar 1) (tCons (tOp (rI (fun _ j => 0 < j) fun i j => .int (i % j)) (tVar 0) (tVar 1)) tNil)))) tz D σ H := by
  subst hσ
  refine q_while (fun m σ' H' => ∃ x y : Int, 0 ≤ x ∧ 0 ≤ y ∧ σ' = [some (.int x), some (.int y)] ∧ Int.gcd x y = Int.gcd a b ∧ m = y.toNat ∧ Ex H H') b.toNat ⟨a, b, ha, hb, rfl, rfl, rfl, Ex.refl H⟩ ?_
  rintro m σ' H' ⟨x, y, hx, hy, rfl, hg, rfl, he⟩
  refine ⟨_, t_test (e_I0 (i := y) (j := 0) (e_var rfl rfl) e_c), fun hb1 H1 e1 => ?_, fun hb1 H1 e1 => ?_⟩
  · have hy1 : 0 < y := of_decide_eq_true hb1
    refine ⟨_, fun _ _ z => z, ?_⟩
    refine s_parP (A := .c (.int y)) (B := .c (.int (x % y))) (e_var rfl rfl) (e_I hy1 (e_var rfl rfl) (e_var rfl rfl)) fun v w H2 e2 hv hw => ?_
    cases hv
    cases hw
    have h1 := Int.emod_nonneg x (show y ≠ 0 by omega)
    have h2 := Int.emod_lt_of_pos x hy1
    exact ⟨(x % y).toNat, by omega, y, x % y, hy, h1, rfl, by rw [gcd_turn hx hy1, hg], rfl, (he.trans e1).trans e2⟩
  · have hy1 : y = 0 := by
      have := of_decide_eq_false hb1
      omega
    subst hy1
    have e : (x : Int) = ((Int.gcd a b : Nat) : Int) := by
      rw [← hg]
      exact gcd_end hx
    have := k H1 (some (.int 0)) (he.trans e1)
    rw [← e] at this
    exact this
theorem sc_divisor : FnScope ["one", "other"] ["one", "other"] (defScope (top 8)) := ⟨rfl, rfl, rfl, by decide +kernel, rfl, by decide +kernel, by decide +kernel⟩
theorem ok_divisor {f : Addr} {fd : FuncData} (T : Txt K mg z o n) (F : At K mg "divisor" 8 f fd) : Ok P wd K mg base 1 "divisor" ["one", "other"] spGcd f fd := by
  refine ⟨F.g, F.F.kp, F.F.bindsN fun _ _ _ _ _ _ us hl => match us, hl with | [_, _], _ => rfl, F.F.ok sc_divisor len2 fun cdv A outer s H vs Q E hr h => ?_⟩
  obtain ⟨g, x, y, hok, rfl, hx, hy, k⟩ := h
  cases hx
  cases hy
  refine ⟨_, PSs.nox (pss_cons (ps_set (i := 0) sc_divisor.nd rfl (.inl rfl) (pAbs T.abs (pv 0))) (pss_cons (ps_set (i := 1) sc_divisor.nd rfl (.inl rfl) (pAbs T.abs (pv 1)))
    (pss_cons (ps_while PassesOwn.never (qGt (pv 1) pe_int) (pss_one (ps_par (i := 0) (j := 1) rfl sc_divisor.nd rfl rfl (by decide) rfl rfl (pa_cons (pv 1) (pa_cons (pMod (pv 0) (pv 1)) pa_nil)) (by rfl))))
    (pss_one (ps_ret (pv 0)))))), ?_⟩
  refine q_asgP (e_abs (e_var rfl rfl)) fun v H1 e1 hv => ?_
  cases hv
  refine q_asgP (e_abs (e_var rfl rfl)) fun v H2 e2 hv => ?_
  cases hv
  refine gcd_loop (by split <;> omega) (by split <;> omega) rfl fun H3 v e3 => ?_
  rw [gcd_abs]
  exact s_retP (T := .c _) (e_var rfl rfl) fun v H4 e4 hv => k v H4 (((e1.trans e2).trans e3).trans e4) hv
theorem sc_law_divisor : FnScope ["one", "other"] ["one", "other"] (defScope (top 41)) := ⟨rfl, rfl, rfl, by decide +kernel, rfl, by decide +kernel, by decide +kernel⟩
theorem ok_law_divisor {f : Addr} {fd : FuncData} (T : Txt K mg z o n) (F : At K mg "_law_divisor" 41 f fd) : Ok P wd K mg base 1 "_law_divisor" ["one", "other"] spGcd f fd := by
  refine ⟨F.g, F.F.kp, F.F.bindsN fun _ _ _ _ _ _ us hl => match us, hl with | [_, _], _ => rfl, F.F.ok sc_law_divisor len2 fun cdv A outer s H vs Q E hr h => ?_⟩
  obtain ⟨g, x, y, hok, rfl, hx, hy, k⟩ := h
  cases hx
  cases hy
  refine ⟨_, PSs.nox (pss_cons (ps_set (i := 0) sc_law_divisor.nd rfl (.inl rfl) (pAbs T.abs (pv 0))) (pss_cons (ps_set (i := 1) sc_law_divisor.nd rfl (.inl rfl) (pAbs T.abs (pv 1)))
    (pss_cons (ps_while PassesOwn.never (qGt (pv 1) pe_int) (pss_one (ps_par (i := 0) (j := 1) rfl sc_law_divisor.nd rfl rfl (by decide) rfl rfl (pa_cons (pv 1) (pa_cons (pMod (pv 0) (pv 1)) pa_nil)) (by rfl))))
    (pss_one (ps_ret (pv 0)))))), ?_⟩
  refine q_asgP (e_abs (e_var rfl rfl)) fun v H1 e1 hv => ?_
  cases hv
  refine q_asgP (e_abs (e_var rfl rfl)) fun v H2 e2 hv => ?_
  cases hv
  refine gcd_loop (by split <;> omega) (by split <;> omega) rfl fun H3 v e3 => ?_
  rw [gcd_abs]
  exact s_retP (T := .c _) (e_var rfl rfl) fun v H4 e4 hv => k v H4 (((e1.trans e2).trans e3).trans e4) hv
/-! #### ratio -/
def okRatio (g : Int × Int) : Prop := g.2 ≠ 0 ∧ g.1.natAbs < 2 ^ 8000 ∧ g.2.natAbs < 2 ^ 8000
abbrev spRatio (K : PySem.W.Frag) : Sp := sp2 okRatio (fun g => .c (.int g.1)) (fun g => .c (.int g.2)) (fun g => .fr K (Rat.divInt g.1 g.2))
theorem u_ratio {σ : L2.St} {H : Hp} {ta tb : TE} {a b : Int} (hok : okRatio (a, b)) (ha : EvP ta σ H (.c (.int a))) (hb : EvP tb σ H (.c (.int b))) : EvP (tCall (spRatio K) [] E0 (tCons ta (tCons tb tNil))) σ H (.fr K (Rat.divInt a b)) := e_call2 (a, b) hok ha hb
/-- from the gcd on -/
theorem ratio_end {K : PySem.W.Frag} {t b : Int} {σ : L2.St} {H : Hp} {D : Ends} (hok : okRatio (t, b)) (hσ : σ = [some (.int t), some (.int b), some (.int ((Int.gcd t b : Nat) : Int))])
    (k : ∀ v H', Ex H H' → (Ty.fr K (Rat.divInt t b)).is v H' → D.rt v H') :
    tSeq (tIfS (tTest (tOp (rI0 fun i j => .bl (decide (i < j))) (tVar 1) (tC (.int 0)))) (tAsg (tOp (rI0 fun i j => .int (i - j)) (tC (.int 0)) (tVar 2)) (gName 2)) tNext)
      (tRet (tTup (tCons (tOp (rI CDivX fun i j => .int (i.fdiv j)) (tVar 0) (tVar 2)) (tCons (tOp (rI CDivX fun i j => .int (i.fdiv j)) (tVar 1) (tVar 2)) tNil)))) D σ H := by
  subst hσ
  obtain ⟨hb, h1, h2⟩ := hok
  refine q_ifAsgP (v0 := .int ((Int.gcd t b : Nat) : Int)) (v1 := .int (0 - ((Int.gcd t b : Nat) : Int))) (t_test (e_I0 (i := b) (j := 0) (e_var rfl rfl) e_c)) (fun _ => e_I0 (i := 0) e_c (e_var rfl rfl)) rfl fun H1 e1 => ?_
  have e : (if decide (b < 0) = true then V.int (0 - ((Int.gcd t b : Nat) : Int)) else V.int ((Int.gcd t b : Nat) : Int)) = V.int (by_ t b) := by
    unfold by_
    by_cases hn : b < 0
    · rw [if_pos (decide_eq_true hn), if_pos hn]
    · rw [if_neg (by rw [decide_eq_false hn]; decide), if_neg hn]
  rw [e]
  have c : ∀ i, CDivX i (by_ t b) := fun i => divX (by_ne hb) (gcd_lt hb h2) (by decide) (by decide)
  refine s_retP ((e_t2 (K := K) (e_I (i := t) (j := by_ t b) (c _) (e_var rfl rfl) (e_var rfl rfl)) (e_I (i := b) (j := by_ t b) (c _) (e_var rfl rfl) (e_var rfl rfl))).cast ?_) fun v H2 e2 hv => k v H2 (e1.trans e2) hv
  rw [ratio_num hb, ratio_den hb]
  rfl
theorem sc_ratio : FnScope ["top", "bottom", "by"] ["top", "bottom"] (defScope (top 9)) := ⟨rfl, rfl, rfl, by decide +kernel, rfl, by decide +kernel, by decide +kernel⟩
theorem ok_ratio {f : Addr} {fd : FuncData} {f_O : Addr} {fd_O : FuncData} (O : Ok P wd K mg base 1 "divisor" ["one", "other"] spGcd f_O fd_O) (F : At K mg "ratio" 9 f fd) : Ok P wd K mg base 2 "ratio" ["top", "bottom"] (spRatio K) f fd := by
  refine ⟨F.g, F.F.kp, F.F.bindsN fun _ _ _ _ _ _ us hl => match us, hl with | [_, _], _ => rfl, F.F.ok sc_ratio len2 fun cdv A outer s H vs Q E hr h => ?_⟩
  obtain ⟨g, x, y, hok, rfl, hx, hy, k⟩ := h
  cases hx
  cases hy
  obtain ⟨t, b⟩ := g
  refine ⟨_, PSs.nox (pss_cons (ps_if (qEq (pv 1) pe_int) pss_never pss_nil) (pss_cons (ps_set (i := 2) sc_ratio.nd rfl (.inl rfl) (pCall2 O hr (pv 0) (pv 1)))
    (pss_cons (ps_if (qLt (pv 1) pe_int) (pss_one (ps_set (i := 2) sc_ratio.nd rfl (.inl rfl) (pSub pe_int (pv 2)))) pss_nil)
    (pss_one (ps_ret (pT2 (pDivX (pv 0) (pv 2)) (pDivX (pv 1) (pv 2)))))))), ?_⟩
  refine q_whenF ((t_test (e_eq (x := .int b) (y := .int 0) rfl (e_var rfl rfl) e_c)) |> fun h => Evl.et_is h (decide_eq_false fun q => hok.1 (V.int.inj q))) fun H1 e1 => ?_
  refine q_asgP (u_gcd (a := t) (b := b) (e_var rfl rfl) (e_var rfl rfl)) fun v H2 e2 hv => ?_
  cases hv
  exact ratio_end hok rfl fun v H3 e3 hv => k v H3 ((e1.trans e2).trans e3) hv
theorem sc_law_ratio : FnScope ["top", "bottom", "by"] ["top", "bottom"] (defScope (top 42)) := ⟨rfl, rfl, rfl, by decide +kernel, rfl, by decide +kernel, by decide +kernel⟩
theorem ok_law_ratio {f : Addr} {fd : FuncData} {f_O : Addr} {fd_O : FuncData} (O : Ok P wd K mg base 1 "_law_divisor" ["one", "other"] spGcd f_O fd_O) (F : At K mg "_law_ratio" 42 f fd) : Ok P wd K mg base 2 "_law_ratio" ["top", "bottom"] (spRatio K) f fd := by
  refine ⟨F.g, F.F.kp, F.F.bindsN fun _ _ _ _ _ _ us hl => match us, hl with | [_, _], _ => rfl, F.F.ok sc_law_ratio len2 fun cdv A outer s H vs Q E hr h => ?_⟩
  obtain ⟨g, x, y, hok, rfl, hx, hy, k⟩ := h
  cases hx
  cases hy
  obtain ⟨t, b⟩ := g
  refine ⟨_, PSs.nox (pss_cons (ps_set (i := 2) sc_law_ratio.nd rfl (.inl rfl) (pCall2 O hr (pv 0) (pv 1)))
    (pss_cons (ps_if (qLt (pv 1) pe_int) (pss_one (ps_set (i := 2) sc_law_ratio.nd rfl (.inl rfl) (pSub pe_int (pv 2)))) pss_nil)
    (pss_one (ps_ret (pT2 (pDivX (pv 0) (pv 2)) (pDivX (pv 1) (pv 2))))))), ?_⟩
  refine q_asgP (u_gcd (a := t) (b := b) (e_var rfl rfl) (e_var rfl rfl)) fun v H2 e2 hv => ?_
  cases hv
  exact ratio_end hok rfl fun v H3 e3 hv => k v H3 (e2.trans e3) hv
/-! #### plus, negated, minus, times, over, sign_of, size_of -/
def okPlus (g : Rat × Rat) : Prop := Sz 3999 g.1 ∧ Sz 3999 g.2
abbrev spPlus (K : PySem.W.Frag) : Sp := sp2 okPlus (fun g => .fr K g.1) (fun g => .fr K g.2) (fun g => .fr K (g.1 + g.2))
abbrev spMinus (K : PySem.W.Frag) : Sp := sp2 okPlus (fun g => .fr K g.1) (fun g => .fr K g.2) (fun g => .fr K (g.1 - g.2))
abbrev spTimes (K : PySem.W.Frag) : Sp := sp2 okPlus (fun g => .fr K g.1) (fun g => .fr K g.2) (fun g => .fr K (g.1 * g.2))
abbrev spOver (K : PySem.W.Frag) : Sp := sp2 (fun g : Rat × Rat => okPlus g ∧ g.2 ≠ 0) (fun g => .fr K g.1) (fun g => .fr K g.2) (fun g => .fr K (g.1 / g.2))
abbrev spNeg (K : PySem.W.Frag) : Sp := sp1 (fun _ : Rat => True) (fun g => .fr K g) (fun g => .fr K (-g))
abbrev spSize (K : PySem.W.Frag) : Sp := sp1 (fun _ : Rat => True) (fun g => .fr K g) (fun g => .fr K g.abs)
abbrev spSign (K : PySem.W.Frag) : Sp := sp1 (fun _ : Rat => True) (fun g => .fr K g) (fun g => .c (.int (sg g)))
section
variable {σ : L2.St} {H : Hp} {ta tb : TE} {a b : Rat}
theorem u_plus (ha : Sz 3999 a) (hb : Sz 3999 b) (h1 : EvP ta σ H (.fr K a)) (h2 : EvP tb σ H (.fr K b)) : EvP (tCall (spPlus K) [] E0 (tCons ta (tCons tb tNil))) σ H (.fr K (a + b)) := e_call2 (a, b) ⟨ha, hb⟩ h1 h2
theorem u_minus (ha : Sz 3999 a) (hb : Sz 3999 b) (h1 : EvP ta σ H (.fr K a)) (h2 : EvP tb σ H (.fr K b)) : EvP (tCall (spMinus K) [] E0 (tCons ta (tCons tb tNil))) σ H (.fr K (a - b)) := e_call2 (a, b) ⟨ha, hb⟩ h1 h2
theorem u_times (ha : Sz 3999 a) (hb : Sz 3999 b) (h1 : EvP ta σ H (.fr K a)) (h2 : EvP tb σ H (.fr K b)) : EvP (tCall (spTimes K) [] E0 (tCons ta (tCons tb tNil))) σ H (.fr K (a * b)) := e_call2 (a, b) ⟨ha, hb⟩ h1 h2
theorem u_over (ha : Sz 3999 a) (hb : Sz 3999 b) (hz : b ≠ 0) (h1 : EvP ta σ H (.fr K a)) (h2 : EvP tb σ H (.fr K b)) : EvP (tCall (spOver K) [] E0 (tCons ta (tCons tb tNil))) σ H (.fr K (a / b)) := e_call2 (a, b) ⟨⟨ha, hb⟩, hz⟩ h1 h2
theorem u_neg (h1 : EvP ta σ H (.fr K a)) : EvP (tCall (spNeg K) [] E0 (tCons ta tNil)) σ H (.fr K (-a)) := e_call1 a trivial h1
theorem u_size (h1 : EvP ta σ H (.fr K a)) : EvP (tCall (spSize K) [] E0 (tCons ta tNil)) σ H (.fr K a.abs) := e_call1 a trivial h1
theorem u_sign (h1 : EvP ta σ H (.fr K a)) : EvP (tCall (spSign K) [] E0 (tCons ta tNil)) σ H (.c (.int (sg a))) := e_call1 a trivial h1
/-- numerator, denominator, of a name's fraction -/
theorem e_num (h : EvP ta σ H (.fr K a)) : EvP (tOp (rIxT K) ta (tC (.int 0))) σ H (.c (.int a.num)) := e_ix0 h
theorem e_den (h : EvP ta σ H (.fr K a)) : EvP (tOp (rIxT K) ta (tC (.int 1))) σ H (.c (.int (a.den : Int))) := e_ix1 h
end
theorem mulSz {i j : Int} {a b : Nat} (ha : i.natAbs < 2 ^ a) (hb : j.natAbs < 2 ^ b) (h0 : 0 < a) (h1 : 0 < b) (h : a + b ≤ 1000000) : CMulW i j := wide_mul ha hb h0 h1 h
theorem sz_num {n : Nat} {q : Rat} (h : Sz n q) : q.num.natAbs < 2 ^ n := h.1
theorem sz_den {n : Nat} {q : Rat} (h : Sz n q) : ((q.den : Nat) : Int).natAbs < 2 ^ n := by
  rw [Int.natAbs_natCast]
  exact h.2
theorem sz_mul' {i j : Int} {a b c : Nat} (ha : i.natAbs < 2 ^ a) (hb : j.natAbs < 2 ^ b) (h : a + b ≤ c) : (i * j).natAbs < 2 ^ c := Nat.lt_of_lt_of_le (wide_lt ha hb) (Nat.pow_le_pow_right (by decide) h)
theorem sz_add' {i j : Int} {a c : Nat} (ha : i.natAbs < 2 ^ a) (hb : j.natAbs < 2 ^ a) (h : a + 1 ≤ c) : (i + j).natAbs < 2 ^ c := by
  refine Nat.lt_of_lt_of_le ?_ (Nat.pow_le_pow_right (by decide) h)
  rw [Nat.pow_succ]
  have := Int.natAbs_add_le i j
  omega
theorem sc_plus : FnScope ["one", "other"] ["one", "other"] (defScope (top 10)) := ⟨rfl, rfl, rfl, by decide +kernel, rfl, by decide +kernel, by decide +kernel⟩
theorem ok_plus {f : Addr} {fd : FuncData} {f_O : Addr} {fd_O : FuncData} (O : Ok P wd K mg base 2 "ratio" ["top", "bottom"] (spRatio K) f_O fd_O) (F : At K mg "plus" 10 f fd) : Ok P wd K mg base 3 "plus" ["one", "other"] (spPlus K) f fd := by
  refine ⟨F.g, F.F.kp, F.F.bindsN fun _ _ _ _ _ _ us hl => match us, hl with | [_, _], _ => rfl, F.F.ok sc_plus len2 fun cdv A outer s H vs Q E hr h => ?_⟩
  obtain ⟨g, x, y, hok, rfl, hx, hy, k⟩ := h
  obtain ⟨a, b⟩ := g
  obtain ⟨ha, hb⟩ := hok
  refine ⟨_, PSs.nox (pss_one (ps_ret (pCall2 O hr (pAdd (pMul (pIx0 (pv 0)) (pIx1 (pv 1))) (pMul (pIx0 (pv 1)) (pIx1 (pv 0)))) (pMul (pIx1 (pv 0)) (pIx1 (pv 1)))))), ?_⟩
  have va : EvP (tVar 0) (L2.start ["one", "other"] [x, y]) H (.fr K a) := e_var rfl hx
  have vb : EvP (tVar 1) (L2.start ["one", "other"] [x, y]) H (.fr K b) := e_var rfl hy
  have h1 := sz_num ha
  have h2 := sz_den ha
  have h3 := sz_num hb
  have h4 := sz_den hb
  refine s_retP ((u_ratio (a := a.num * b.den + b.num * a.den) (b := a.den * b.den) ⟨?_, ?_, ?_⟩ (e_I0 (i := a.num * b.den) (j := b.num * a.den) (e_I (mulSz h1 h4 (by decide) (by decide) (by decide)) (e_num va) (e_den vb)) (e_I (mulSz h3 h2 (by decide) (by decide) (by decide)) (e_num vb) (e_den va))) (e_I (mulSz h2 h4 (by decide) (by decide) (by decide)) (e_den va) (e_den vb))).cast (by rw [add_eq])) k
  · exact Int.mul_ne_zero (den_ne' a) (den_ne' b)
  · exact sz_add' (a := 7998) (sz_mul' h1 h4 (by decide)) (sz_mul' h3 h2 (by decide)) (by decide)
  · exact sz_mul' h2 h4 (by decide)
theorem sc_negated : FnScope ["one"] ["one"] (defScope (top 11)) := ⟨rfl, rfl, rfl, by decide +kernel, rfl, by decide +kernel, by decide +kernel⟩
theorem ok_negated {f : Addr} {fd : FuncData} (F : At K mg "negated" 11 f fd) : Ok P wd K mg base 1 "negated" ["one"] (spNeg K) f fd := by
  refine ⟨F.g, F.F.kp, F.F.bindsN fun _ _ _ _ _ _ us hl => match us, hl with | [_], _ => rfl, F.F.ok sc_negated len1 fun cdv A outer s H vs Q E hr h => ?_⟩
  obtain ⟨g, x, hok, rfl, hx, k⟩ := h
  refine ⟨_, PSs.nox (pss_one (ps_ret (pT2 (pSub pe_int (pIx0 (pv 0))) (pIx1 (pv 0))))), ?_⟩
  have va : EvP (tVar 0) (L2.start ["one"] [x]) H (.fr K g) := e_var rfl hx
  refine s_retP ((e_t2 (K := K) (e_I0 (i := 0) (j := g.num) e_c (e_num va)) (e_den va)).cast ?_) k
  rw [neg_num']
  rfl
theorem sc_minus : FnScope ["one", "other"] ["one", "other"] (defScope (top 12)) := ⟨rfl, rfl, rfl, by decide +kernel, rfl, by decide +kernel, by decide +kernel⟩
theorem ok_minus {f : Addr} {fd : FuncData} {f_O : Addr} {fd_O : FuncData} (O : Ok P wd K mg base 3 "plus" ["one", "other"] (spPlus K) f_O fd_O) {f_O2 : Addr} {fd_O2 : FuncData} (O2 : Ok P wd K mg base 1 "negated" ["one"] (spNeg K) f_O2 fd_O2) (F : At K mg "minus" 12 f fd) : Ok P wd K mg base 4 "minus" ["one", "other"] (spMinus K) f fd := by
  refine ⟨F.g, F.F.kp, F.F.bindsN fun _ _ _ _ _ _ us hl => match us, hl with | [_, _], _ => rfl, F.F.ok sc_minus len2 fun cdv A outer s H vs Q E hr h => ?_⟩
  obtain ⟨g, x, y, hok, rfl, hx, hy, k⟩ := h
  obtain ⟨a, b⟩ := g
  obtain ⟨ha, hb⟩ := hok
  refine ⟨_, PSs.nox (pss_one (ps_ret (pCall2 O hr (pv 0) (pCall1 O2 hr (pv 1))))), ?_⟩
  exact s_retP ((u_plus ha hb.neg (e_var rfl hx) (u_neg (e_var rfl hy))).cast (congrArg (Ty.fr K) (Rat.sub_eq_add_neg a b).symm)) k
theorem sc_times : FnScope ["one", "other"] ["one", "other"] (defScope (top 13)) := ⟨rfl, rfl, rfl, by decide +kernel, rfl, by decide +kernel, by decide +kernel⟩
theorem ok_times {f : Addr} {fd : FuncData} {f_O : Addr} {fd_O : FuncData} (O : Ok P wd K mg base 2 "ratio" ["top", "bottom"] (spRatio K) f_O fd_O) (F : At K mg "times" 13 f fd) : Ok P wd K mg base 3 "times" ["one", "other"] (spTimes K) f fd := by
  refine ⟨F.g, F.F.kp, F.F.bindsN fun _ _ _ _ _ _ us hl => match us, hl with | [_, _], _ => rfl, F.F.ok sc_times len2 fun cdv A outer s H vs Q E hr h => ?_⟩
  obtain ⟨g, x, y, hok, rfl, hx, hy, k⟩ := h
  obtain ⟨a, b⟩ := g
  obtain ⟨ha, hb⟩ := hok
  refine ⟨_, PSs.nox (pss_one (ps_ret (pCall2 O hr (pMul (pIx0 (pv 0)) (pIx0 (pv 1))) (pMul (pIx1 (pv 0)) (pIx1 (pv 1)))))), ?_⟩
  have va : EvP (tVar 0) (L2.start ["one", "other"] [x, y]) H (.fr K a) := e_var rfl hx
  have vb : EvP (tVar 1) (L2.start ["one", "other"] [x, y]) H (.fr K b) := e_var rfl hy
  have h1 := sz_num ha
  have h2 := sz_den ha
  have h3 := sz_num hb
  have h4 := sz_den hb
  refine s_retP ((u_ratio (a := a.num * b.num) (b := a.den * b.den) ⟨?_, ?_, ?_⟩ (e_I (mulSz h1 h3 (by decide) (by decide) (by decide)) (e_num va) (e_num vb)) (e_I (mulSz h2 h4 (by decide) (by decide) (by decide)) (e_den va) (e_den vb))).cast (by rw [mul_eq])) k
  · exact Int.mul_ne_zero (den_ne' a) (den_ne' b)
  · exact sz_mul' h1 h3 (by decide)
  · exact sz_mul' h2 h4 (by decide)
theorem sc_over : FnScope ["one", "other"] ["one", "other"] (defScope (top 14)) := ⟨rfl, rfl, rfl, by decide +kernel, rfl, by decide +kernel, by decide +kernel⟩
theorem ok_over {f : Addr} {fd : FuncData} {f_O : Addr} {fd_O : FuncData} (O : Ok P wd K mg base 2 "ratio" ["top", "bottom"] (spRatio K) f_O fd_O) (F : At K mg "over" 14 f fd) : Ok P wd K mg base 3 "over" ["one", "other"] (spOver K) f fd := by
  refine ⟨F.g, F.F.kp, F.F.bindsN fun _ _ _ _ _ _ us hl => match us, hl with | [_, _], _ => rfl, F.F.ok sc_over len2 fun cdv A outer s H vs Q E hr h => ?_⟩
  obtain ⟨g, x, y, hok, rfl, hx, hy, k⟩ := h
  obtain ⟨a, b⟩ := g
  obtain ⟨⟨ha, hb⟩, hz⟩ := hok
  refine ⟨_, PSs.nox (pss_one (ps_ret (pCall2 O hr (pMul (pIx0 (pv 0)) (pIx1 (pv 1))) (pMul (pIx1 (pv 0)) (pIx0 (pv 1)))))), ?_⟩
  have va : EvP (tVar 0) (L2.start ["one", "other"] [x, y]) H (.fr K a) := e_var rfl hx
  have vb : EvP (tVar 1) (L2.start ["one", "other"] [x, y]) H (.fr K b) := e_var rfl hy
  have h1 := sz_num ha
  have h2 := sz_den ha
  have h3 := sz_num hb
  have h4 := sz_den hb
  refine s_retP ((u_ratio (a := a.num * b.den) (b := a.den * b.num) ⟨?_, ?_, ?_⟩ (e_I (mulSz h1 h4 (by decide) (by decide) (by decide)) (e_num va) (e_den vb)) (e_I (mulSz h2 h3 (by decide) (by decide) (by decide)) (e_den va) (e_num vb))).cast (by rw [div_eq])) k
  · exact Int.mul_ne_zero (den_ne' a) (fun q => hz (Rat.num_eq_zero.mp q))
  · exact sz_mul' h1 h4 (by decide)
  · exact sz_mul' h2 h3 (by decide)
theorem sc_sign_of : FnScope ["one"] ["one"] (defScope (top 15)) := ⟨rfl, rfl, rfl, by decide +kernel, rfl, by decide +kernel, by decide +kernel⟩
theorem ok_sign_of {f : Addr} {fd : FuncData} (T : Txt K mg z o n) (F : At K mg "sign_of" 15 f fd) : Ok P wd K mg base 1 "sign_of" ["one"] (spSign K) f fd := by
  refine ⟨F.g, F.F.kp, F.F.bindsN fun _ _ _ _ _ _ us hl => match us, hl with | [_], _ => rfl, F.F.ok sc_sign_of len1 fun cdv A outer s H vs Q E hr h => ?_⟩
  obtain ⟨g, x, hok, rfl, hx, k⟩ := h
  refine ⟨_, PSs.nox (pss_one (ps_ret (pSub (pInt T.int (vGt (pIx0 (pv 0)) pe_int)) (pInt T.int (vLt (pIx0 (pv 0)) pe_int))))), ?_⟩
  have va : EvP (tVar 0) (L2.start ["one"] [x]) H (.fr K g) := e_var rfl hx
  refine s_retP ((e_I0 (i := if decide (0 < g.num) then 1 else 0) (j := if decide (g.num < 0) then 1 else 0) (e_int (e_I0 (i := g.num) (j := 0) (e_num va) e_c)) (e_int (e_I0 (i := g.num) (j := 0) (e_num va) e_c))).cast ?_) k
  have e : ((if decide (0 < g.num) = true then 1 else 0) - (if decide (g.num < 0) = true then 1 else 0) : Int) = sg g := by
    have p := num_pos g
    have q := num_neg g
    rcases sg_cases g with ⟨h, e⟩ | ⟨h, e⟩ | ⟨h, e⟩
    · have := p.mpr h
      rw [e, decide_eq_true this, decide_eq_false (by omega)]
      rfl
    · have := Rat.num_eq_zero.mpr h
      rw [e, this]
      rfl
    · have := q.mpr h
      rw [e, decide_eq_true this, decide_eq_false (by omega)]
      rfl
  rw [e]
theorem sc_size_of : FnScope ["one"] ["one"] (defScope (top 16)) := ⟨rfl, rfl, rfl, by decide +kernel, rfl, by decide +kernel, by decide +kernel⟩
theorem ok_size_of {f : Addr} {fd : FuncData} (T : Txt K mg z o n) (F : At K mg "size_of" 16 f fd) : Ok P wd K mg base 1 "size_of" ["one"] (spSize K) f fd := by
  refine ⟨F.g, F.F.kp, F.F.bindsN fun _ _ _ _ _ _ us hl => match us, hl with | [_], _ => rfl, F.F.ok sc_size_of len1 fun cdv A outer s H vs Q E hr h => ?_⟩
  obtain ⟨g, x, hok, rfl, hx, k⟩ := h
  refine ⟨_, PSs.nox (pss_one (ps_ret (pT2 (pAbs T.abs (pIx0 (pv 0))) (pIx1 (pv 0))))), ?_⟩
  have va : EvP (tVar 0) (L2.start ["one"] [x]) H (.fr K g) := e_var rfl hx
  refine s_retP ((e_t2 (K := K) (e_abs (e_num va)) (e_den va)).cast ?_) k
  rw [abs_num]
  unfold Ty.fr
  dsimp only
  rw [abs_den]
/-! #### whole_root, root_in -/
def okRoot (g : Int × Int) : Prop := 0 ≤ g.1 ∧ g.1.natAbs < 2 ^ 8999 ∧ IsRoot g.1 g.2
abbrev spRoot : Sp := sp1 okRoot (fun g => .c (.int g.1)) (fun g => .c (.int g.2))
theorem u_root {σ : L2.St} {H : Hp} {ta : TE} {a r : Int} (h0 : 0 ≤ a) (h1 : a.natAbs < 2 ^ 8999) (hr : IsRoot a r) (h : EvP ta σ H (.c (.int a))) : EvP (tCall spRoot [] E0 (tCons ta tNil)) σ H (.c (.int r)) := e_call1 (a, r) ⟨h0, h1, hr⟩ h
theorem sc_whole_root : FnScope ["number", "found", "lower"] ["number"] (defScope (top 17)) := ⟨rfl, rfl, rfl, by decide +kernel, rfl, by decide +kernel, by decide +kernel⟩
theorem ok_whole_root {f : Addr} {fd : FuncData} (F : At K mg "whole_root" 17 f fd) : Ok P wd K mg base 1 "whole_root" ["number"] spRoot f fd := by
  refine ⟨F.g, F.F.kp, F.F.bindsN fun _ _ _ _ _ _ us hl => match us, hl with | [_], _ => rfl, F.F.ok sc_whole_root len1 fun cdv A outer s H vs Q E hr h => ?_⟩
  obtain ⟨g, x, hok, rfl, hx, k⟩ := h
  cases hx
  obtain ⟨m, r⟩ := g
  obtain ⟨h0, hz, hroot⟩ := hok
  refine ⟨_, PSs.nox (pss_cons (ps_set (i := 1) sc_whole_root.nd rfl (.inl rfl) (pv 0)) (pss_cons (ps_set (i := 2) sc_whole_root.nd rfl (.inl rfl) (pe_op op_fdiv (pAdd (pv 1) pe_int) pe_int))
    (pss_cons (ps_while PassesOwn.never (qLt (pv 2) (pv 1)) (pss_cons (ps_set (i := 1) sc_whole_root.nd rfl (.inl rfl) (pv 2)) (pss_one (ps_set (i := 2) sc_whole_root.nd rfl (.inl rfl) (pe_op op_fdiv (pAdd (pv 1) (pDivW (pv 0) (pv 1))) pe_int)))))
    (pss_one (ps_ret (pv 1)))))), ?_⟩
  refine q_asgP (T := .c (.int m)) (e_var rfl rfl) fun v H1 e1 hv => ?_
  cases hv
  refine q_asgP (e_I (i := m + 1) (j := 2) ⟨by decide, by decide⟩ (e_I0 (i := m) (j := 1) (e_var rfl rfl) e_c) e_c) fun v H2 e2 hv => ?_
  cases hv
  have bound : ∀ f l : Int, 0 ≤ l → l < f → f ≤ m → l.natAbs < 2 ^ 8999 := fun f l a b c => Nat.lt_of_le_of_lt (by omega) hz
  refine q_while (fun j σ' H' => ∃ f l : Int, σ' = [some (.int m), some (.int f), some (.int l)] ∧ j = f.toNat ∧ f ≤ m ∧ Ex H H' ∧ (m = 0 ∧ f = 0 ∧ l = 0 ∨ 0 < m ∧ 0 < f ∧ m < (f + 1) * (f + 1) ∧ l = (f + m / f) / 2)) m.toNat
    ⟨m, (m + 1) / 2, rfl, rfl, Int.le_refl _, e1.trans e2, ?_⟩ ?_
  · rcases Int.lt_or_le 0 m with hm | hm
    · refine .inr ⟨hm, hm, ?_, by rw [Int.ediv_self (by omega)]⟩
      have := Int.mul_le_mul_of_nonneg_left (show 1 ≤ m + 1 by omega) (show 0 ≤ m + 1 by omega)
      omega
    · have : m = 0 := by omega
      subst this
      exact .inl ⟨rfl, rfl, rfl⟩
  rintro j σ' H' ⟨f, l, rfl, rfl, hf, he, hW⟩
  refine ⟨_, t_test (e_I0 (i := l) (j := f) (e_var rfl rfl) (e_var rfl rfl)), fun hb1 H3 e3 => ?_, fun hb1 H3 e3 => ?_⟩
  · have hlt : l < f := of_decide_eq_true hb1
    refine ⟨_, fun _ _ z => z, ?_⟩
    rcases hW with ⟨a, b, c⟩ | ⟨hm, hf0, hbig, hl⟩
    · omega
    have nw := newton hf0 hm hbig
    rw [← hl] at nw
    refine q_asgP (T := .c (.int l)) (e_var rfl rfl) fun v H4 e4 hv => ?_
    cases hv
    refine s_asgP (e_I (i := l + m / l) (j := 2) ⟨by decide, by decide⟩ (e_I0 (i := l) (j := m / l) (e_var rfl rfl) (e_I (i := m) (j := l) (wide_div nw.1 (bound f l (by omega) hlt hf) (by decide) (by decide)) (e_var rfl rfl) (e_var rfl rfl))) e_c) fun v H5 e5 hv => ?_
    cases hv
    exact ⟨l.toNat, by omega, l, (l + m / l) / 2, rfl, rfl, by omega, ((he.trans e3).trans e4).trans e5, .inr ⟨hm, nw.1, nw.2, rfl⟩⟩
  · have hge : f ≤ l := by
      have := of_decide_eq_false hb1
      omega
    have hfr : f = r := by
      rcases hW with ⟨a, b, c⟩ | ⟨hm, hf0, hbig, hl⟩
      · subst b
        refine isRoot_uniq (n := m) ?_ hroot
        rw [a]
        exact ⟨by decide, by decide, by decide⟩
      · exact isRoot_uniq (newton_end hf0 hbig (by omega)) hroot
    subst hfr
    exact s_retP (T := .c (.int f)) (e_var rfl rfl) fun v H4 e4 hv => k v H4 ((he.trans e3).trans e4) hv
/-- what root_in is asked: a fraction from 0 on, and the answer -/
def okIn (g : Rat × Option Rat) : Prop := 0 ≤ g.1 ∧ Sz 8999 g.1 ∧ match g.2 with
  | some r => 0 ≤ r ∧ r * r = g.1
  | none => ∀ r : Rat, r * r ≠ g.1
def optT (K : PySem.W.Frag) : Option Rat → Ty
  | some r => .fr K r
  | none => .c .non
abbrev spIn (K : PySem.W.Frag) : Sp := sp1 okIn (fun g => .fr K g.1) (fun g => optT K g.2)
theorem u_inY {σ : L2.St} {H : Hp} {ta : TE} {q r : Rat} (hs : Sz 8999 q) (h0 : 0 ≤ r) (hr : r * r = q) (h : EvP ta σ H (.fr K q)) : EvP (tCall (spIn K) [] E0 (tCons ta tNil)) σ H (.fr K r) :=
  e_call1 (A := fun g => .fr K g.1) (R := fun g => optT K g.2) (q, some r) ⟨by rw [← hr]; exact sq_nonneg r, hs, h0, hr⟩ h
theorem u_inN {σ : L2.St} {H : Hp} {ta : TE} {q : Rat} (hs : Sz 8999 q) (h0 : 0 ≤ q) (hr : ∀ r : Rat, r * r ≠ q) (h : EvP ta σ H (.fr K q)) : EvP (tCall (spIn K) [] E0 (tCons ta tNil)) σ H (.c .non) :=
  e_call1 (A := fun g => .fr K g.1) (R := fun g => optT K g.2) (q, none) ⟨h0, hs, hr⟩ h
theorem sc_root_in : FnScope ["one", "top", "bottom"] ["one"] (defScope (top 18)) := ⟨rfl, rfl, rfl, by decide +kernel, rfl, by decide +kernel, by decide +kernel⟩
theorem ok_root_in {f : Addr} {fd : FuncData} {f_O : Addr} {fd_O : FuncData} (O : Ok P wd K mg base 1 "whole_root" ["number"] spRoot f_O fd_O) (F : At K mg "root_in" 18 f fd) : Ok P wd K mg base 2 "root_in" ["one"] (spIn K) f fd := by
  refine ⟨F.g, F.F.kp, F.F.bindsN fun _ _ _ _ _ _ us hl => match us, hl with | [_], _ => rfl, F.F.ok sc_root_in len1 fun cdv A outer s H vs Q E hr h => ?_⟩
  obtain ⟨g, x, hok, rfl, hx, k⟩ := h
  obtain ⟨q, r⟩ := g
  obtain ⟨h0, hz, hroot⟩ := hok
  refine ⟨_, PSs.nox (pss_cons (ps_par (i := 1) (j := 2) rfl sc_root_in.nd rfl rfl (by decide) rfl rfl (pa_cons (pCall1 O hr (pIx0 (pv 0))) (pa_cons (pCall1 O hr (pIx1 (pv 0))) pa_nil)) (by rfl))
    (pss_cons (ps_if (PW.pt (pw_or (qNe (pMul (pv 1) (pv 1)) (pIx0 (pv 0))) (pw_or1 (qNe (pMul (pv 2) (pv 2)) (pIx1 (pv 0)))))) (pss_one (ps_ret pe_non)) pss_nil)
    (pss_one (ps_ret (pT2 (pv 1) (pv 2)))))), ?_⟩
  have n0 : 0 ≤ q.num := Rat.num_nonneg.mpr h0
  obtain ⟨s, hs⟩ := isRoot_of n0
  obtain ⟨t, ht⟩ := isRoot_of (show (0 : Int) ≤ (q.den : Int) by omega)
  have va : EvP (tVar 0) (L2.start ["one", "top", "bottom"] [x]) H (.fr K q) := e_var rfl hx
  refine q_parP (u_root n0 (sz_num hz) hs (e_num va)) (u_root (by omega) (sz_den hz) ht (e_den va)) fun v w H1 e1 hv hw => ?_
  cases hv
  cases hw
  have small : ∀ {m r : Int}, IsRoot m r → m.natAbs < 2 ^ 8999 → r.natAbs < 2 ^ 8999 := fun {m r} g b => by
    have g0 := g.1
    have g1 := g.2.1
    have : r ≤ m := by
      rcases Int.lt_or_le 0 r with p | p
      · have := Int.mul_le_mul_of_nonneg_left (show 1 ≤ r by omega) g0
        omega
      · have : r = 0 := by omega
        subst this
        omega
    exact Nat.lt_of_le_of_lt (by omega) b
  have cs : CMulW s s := mulSz (small hs (sz_num hz)) (small hs (sz_num hz)) (by decide) (by decide) (by decide)
  have ct : CMulW t t := mulSz (small ht (sz_den hz)) (small ht (sz_den hz)) (by decide) (by decide) (by decide)
  have va1 : EvP (tVar 0) [some x, some (.int s), some (.int t)] H1 (.fr K q) := e_var rfl ((Ty.fr K q).ex e1 hx)
  have test := et_or (t_test (e_ne (x := .int (s * s)) (y := .int q.num) rfl (e_I (C := CMulW) (g := fun i j => V.int (i * j)) (i := s) (j := s) cs (e_var (i := 1) (v := .int s) rfl rfl) (e_var (i := 1) (v := .int s) rfl rfl)) (e_num va1))) fun _ =>
    t_test (e_ne (x := .int (t * t)) (y := .int (q.den : Int)) rfl (e_I (C := CMulW) (g := fun i j => V.int (i * j)) (i := t) (j := t) ct (e_var (i := 2) (v := .int t) rfl rfl) (e_var (i := 2) (v := .int t) rfl rfl)) (e_den va1))
  by_cases hy : s * s = q.num ∧ t * t = (q.den : Int)
  · obtain ⟨y1, y2⟩ := hy
    obtain ⟨r', r0, rr, rn, rd⟩ := root_yes hs ht y1 y2
    refine q_whenF (et_is test (by rw [y1, y2, decide_eq_true rfl, decide_eq_true rfl]; rfl)) fun H2 e2 => ?_
    have er : r = some r' := by
      cases r with
      | none => exact absurd rr (hroot r')
      | some r'' => rw [sq_inj hroot.1 r0 (hroot.2.trans rr.symm)]
    subst er
    refine s_retP ((e_t2 (K := K) (A := .c (.int s)) (B := .c (.int t)) (e_var rfl rfl) (e_var rfl rfl)).cast ?_) fun v H3 e3 hv => k v H3 ((e1.trans e2).trans e3) hv
    rw [← rn, ← rd]
    rfl
  · have er : r = none := by
      cases r with
      | none => rfl
      | some r'' => exact absurd (root_no hs ht hroot.2) hy
    subst er
    refine q_whenT (et_is test ?_) fun H2 e2 => s_retP (e_c (x := .non)) fun v H3 e3 hv => k v H3 ((e1.trans e2).trans e3) hv
    by_cases y1 : s * s = q.num
    · have y2 : ¬ t * t = (q.den : Int) := fun y2 => hy ⟨y1, y2⟩
      rw [decide_eq_false (p := V.int (t * t) = V.int (q.den : Int)) (fun q => y2 (V.int.inj q))]
      exact Bool.or_true _
    · rw [decide_eq_false (p := V.int (s * s) = V.int q.num) (fun q => y1 (V.int.inj q))]
      rfl
end
end K16

set_option maxHeartbeats 4000000
set_option exponentiation.threshold 10000
/-! ### root numbers, def by def -/
namespace K16
open PySem PySem.Spec PyProof.Rows L2 Evl
section
variable {X : Cx} {e e2 : Expr} {t u : TE} {pos : Pos}
theorem pTy {x : Str} {nm : String} {p : Pos} (hm : X.mg x = none) (hv : bootBuiltins x = some (.type nm)) (hg : Gl X x := by rfl) (hn : x ≠ "__name__" := by decide) (hd : (x == ("__debug__" : Str)) = false := by decide) : PE X (.Name x p) (tC (.ty nm)) := pe_bltn hg hm hv rfl hn hd
theorem pIsi {p : Pos} (hm : X.mg "isinstance" = none) (h : PE X e t) (g : PE X e2 u) (hg : Gl X "isinstance" := by rfl) (hs : starEach [e, e2] X.env = (false, eval e X.env) :: starEach [e2] X.env := by rfl) (hs2 : starEach [e2] X.env = (false, eval e2 X.env) :: starEach [] X.env := by rfl)
    (hp : (backTo pos (starEach [e2] X.env)).any (·.1) = false := by rfl) : PE X (.Call (.Name "isinstance" p) [e, e2] [] pos) (tCB (rIsi X.K) (tCons t (tCons u tNil))) :=
  pe_callB call_isi hg hm (by decide +kernel) (pa_cons h (pa_cons g pa_nil hs2) hs) (he := hs) (hpl := hp)
theorem pLen {p : Pos} (hm : X.mg "len" = none) (h : PE X e t) (hg : Gl X "len" := by rfl) (hs : starEach [e] X.env = (false, eval e X.env) :: starEach [] X.env := by rfl) : PE X (.Call (.Name "len" p) [e] [] pos) (tCB (rLenQ X.K) (tCons t tNil)) :=
  pe_callB call_len_seq hg hm PySem.boot_len (pa_cons h pa_nil hs) (he := hs)
theorem pGlob {x : Str} {a : Addr} {p : Pos} (hm : X.mg x = some (.ref a)) (hg : Gl X x := by rfl) (hd : (x == ("__debug__" : Str)) = false := by decide) : PE X (.Name x p) (tC (.ref a)) := pe_glob hg hm rfl hd
theorem qIsN {j : Nat} {p : Pos} (h : PE X e t) : PT X (.Compare e [.Is] [.Constant .none j p] pos) (tTest (tOp rIsNon t (tC .non))) := pt_cmpR op_isN h pe_non (nomark _)
theorem vIsN {j : Nat} {p : Pos} (h : PE X e t) : PE X (.Compare e [.Is] [.Constant .none j p] pos) (tOp rIsNon t (tC .non)) := pe_cmpR op_isN h pe_non (nomark _)
theorem vEq (h : PE X e t) (g : PE X e2 u) : PE X (.Compare e [.Eq] [e2] pos) (tOp rEq t u) := pe_cmpR op_eq h g (nomark _)
theorem vEqD (hu : X.A.units + 64 < cLine) (h : PE X e t) (g : PE X e2 u) : PE X (.Compare e [.Eq] [e2] pos) (tOp (rEqD X.K) t u) := pe_cmpR (op_eqD hu) h g (nomark _)
theorem qEqD (hu : X.A.units + 64 < cLine) (h : PE X e t) (g : PE X e2 u) : PT X (.Compare e [.Eq] [e2] pos) (tTest (tOp (rEqD X.K) t u)) := pt_cmpR (op_eqD hu) h g (nomark _)
theorem qNeD (hu : X.A.units + 64 < cLine) (h : PE X e t) (g : PE X e2 u) : PT X (.Compare e [.NotEq] [e2] pos) (tTest (tOp (rNeD X.K) t u)) := pt_cmpR (op_neD hu) h g (nomark _)
end
section
variable {P : Program} {wd : World} {K : PySem.W.Frag} {mg : Str → Option Value} {base : Heap} {z o n : Addr}
/-! #### is_whole, is_fraction, is_number -/
abbrev spWhole : Sp := sp1 (fun _ : Int => True) (fun g => .c (.int g)) (fun _ => .c (.bl true))
theorem u_whole {σ : L2.St} {H : Hp} {ta : TE} {i : Int} (h : EvP ta σ H (.c (.int i))) : EvP (tCall spWhole [] E0 (tCons ta tNil)) σ H (.c (.bl true)) := e_call1 i trivial h
theorem sc_is_whole : FnScope ["thing"] ["thing"] (defScope (top 21)) := ⟨rfl, rfl, rfl, by decide +kernel, rfl, by decide +kernel, by decide +kernel⟩
theorem ok_is_whole {f : Addr} {fd : FuncData} (T : Txt K mg z o n) (F : At K mg "is_whole" 21 f fd) : Ok P wd K mg base 1 "is_whole" ["thing"] spWhole f fd := by
  refine ⟨F.g, F.F.kp, F.F.bindsN fun _ _ _ _ _ _ us hl => match us, hl with | [_], _ => rfl, F.F.ok sc_is_whole len1 fun cdv A outer s H vs Q E hr h => ?_⟩
  obtain ⟨g, x, hok, rfl, hx, k⟩ := h
  cases hx
  refine ⟨_, PSs.nox (pss_one (ps_ret (pe_and (pIsi T.isi (pv 0) (pTy (nm := "int") T.int (by decide +kernel))) (pe_one (pe_not (pIsi T.isi (pv 0) (pTy (nm := "bool") T.bool (by decide +kernel)))))))), ?_⟩
  refine s_retP (e_andV (a := true) (b := !false) (e_isInt (i := g) (e_var rfl rfl) (kit_ty (by decide +kernel))) fun _ => e_notV (e_isInt (i := g) (e_var rfl rfl) (kit_ty (by decide +kernel)))) k
abbrev spDivOf (K : PySem.W.Frag) : Sp := sp1 (fun _ : Rat => True) (fun g => .fr K g) (fun _ => .c (.int 1))
abbrev spFrac (K : PySem.W.Frag) : Sp := sp1 (fun _ : Rat => True) (fun g => .fr K g) (fun _ => .c (.bl true))
theorem u_divOf {σ : L2.St} {H : Hp} {ta : TE} {q : Rat} (h : EvP ta σ H (.fr K q)) : EvP (tCall (spDivOf K) [] E0 (tCons ta tNil)) σ H (.c (.int 1)) := e_call1 q trivial h
theorem u_frac {σ : L2.St} {H : Hp} {ta : TE} {q : Rat} (h : EvP ta σ H (.fr K q)) : EvP (tCall (spFrac K) [] E0 (tCons ta tNil)) σ H (.c (.bl true)) := e_call1 q trivial h
/-- the loop of divisor_of, its names behind the parameter -/
theorem gcd_loop2 {D : Ends} {σ : L2.St} {H : Hp} {v0 : Option V} {a b : Int} {tz : TS} (ha : 0 ≤ a) (hb : 0 ≤ b) (hσ : σ = [v0, some (.int a), some (.int b)])
    (k : ∀ H1 v, Ex H H1 → tz D [v0, some (.int ((Int.gcd a b : Nat) : Int)), v] H1) :
    tSeq (tWhile (tTest (tOp (rI0 fun i j => .bl (decide (j < i))) (tVar 2) (tC (.int 0)))) (tPar 1 2 (tCons (tVar 2) (tCons (tOp (rI (fun _ j => 0 < j) fun i j => .int (i % j)) (tVar 1) (tVar 2)) tNil)))) tz D σ H := by
  subst hσ
  refine q_while (fun m σ' H' => ∃ x y : Int, 0 ≤ x ∧ 0 ≤ y ∧ σ' = [v0, some (.int x), some (.int y)] ∧ Int.gcd x y = Int.gcd a b ∧ m = y.toNat ∧ Ex H H') b.toNat ⟨a, b, ha, hb, rfl, rfl, rfl, Ex.refl H⟩ ?_
  rintro m σ' H' ⟨x, y, hx, hy, rfl, hg, rfl, he⟩
  refine ⟨_, t_test (e_I0 (i := y) (j := 0) (e_var rfl rfl) e_c), fun hb1 H1 e1 => ?_, fun hb1 H1 e1 => ?_⟩
  · have hy1 : 0 < y := of_decide_eq_true hb1
    refine ⟨_, fun _ _ z => z, ?_⟩
    refine s_parP (A := .c (.int y)) (B := .c (.int (x % y))) (e_var rfl rfl) (e_I hy1 (e_var rfl rfl) (e_var rfl rfl)) fun v w H2 e2 hv hw => ?_
    cases hv
    cases hw
    have h1 := Int.emod_nonneg x (show y ≠ 0 by omega)
    have h2 := Int.emod_lt_of_pos x hy1
    exact ⟨(x % y).toNat, by omega, y, x % y, hy, h1, rfl, by rw [gcd_turn hx hy1, hg], rfl, (he.trans e1).trans e2⟩
  · have hy1 : y = 0 := by
      have := of_decide_eq_false hb1
      omega
    subst hy1
    have e : (x : Int) = ((Int.gcd a b : Nat) : Int) := by
      rw [← hg]
      exact gcd_end hx
    have := k H1 (some (.int 0)) (he.trans e1)
    rw [← e] at this
    exact this
theorem sc_divisor_of : FnScope ["fraction", "one", "other"] ["fraction"] (defScope (top 23)) := ⟨rfl, rfl, rfl, by decide +kernel, rfl, by decide +kernel, by decide +kernel⟩
theorem ok_divisor_of {f : Addr} {fd : FuncData} (T : Txt K mg z o n) (F : At K mg "divisor_of" 23 f fd) : Ok P wd K mg base 1 "divisor_of" ["fraction"] (spDivOf K) f fd := by
  refine ⟨F.g, F.F.kp, F.F.bindsN fun _ _ _ _ _ _ us hl => match us, hl with | [_], _ => rfl, F.F.ok sc_divisor_of len1 fun cdv A outer s H vs Q E hr h => ?_⟩
  obtain ⟨g, x, hok, rfl, hx, k⟩ := h
  refine ⟨_, PSs.nox (pss_cons (ps_par (i := 1) (j := 2) rfl sc_divisor_of.nd rfl rfl (by decide) rfl rfl (pa_cons (pAbs T.abs (pIx0 (pv 0))) (pa_cons (pIx1 (pv 0)) pa_nil)) (by rfl))
    (pss_cons (ps_while PassesOwn.never (qGt (pv 2) pe_int) (pss_one (ps_par (i := 1) (j := 2) rfl sc_divisor_of.nd rfl rfl (by decide) rfl rfl (pa_cons (pv 2) (pa_cons (pMod (pv 1) (pv 2)) pa_nil)) (by rfl))))
    (pss_one (ps_ret (pv 1))))), ?_⟩
  have va : EvP (tVar 0) (L2.start ["fraction", "one", "other"] [x]) H (.fr K g) := e_var rfl hx
  refine q_parP (e_abs (e_num va)) (e_den va) fun v w H1 e1 hv hw => ?_
  cases hv
  cases hw
  refine gcd_loop2 (a := if g.num < 0 then -g.num else g.num) (b := (g.den : Int)) (by split <;> omega) (by omega) rfl fun H3 v e3 => ?_
  rw [gcd_abs1]
  have e : ((Int.gcd g.num (g.den : Int) : Nat) : Int) = 1 := by
    have r := g.reduced
    show ((Nat.gcd g.num.natAbs ((g.den : Int)).natAbs : Nat) : Int) = 1
    rw [Int.natAbs_natCast, r]
    rfl
  rw [e]
  exact s_retP (T := .c _) (e_var rfl rfl) fun v H4 e4 hv => k v H4 ((e1.trans e3).trans e4) hv
theorem sc_is_fraction : FnScope ["thing"] ["thing"] (defScope (top 22)) := ⟨rfl, rfl, rfl, by decide +kernel, rfl, by decide +kernel, by decide +kernel⟩
theorem ok_is_fraction {f : Addr} {fd : FuncData} (T : Txt K mg z o n) {f_O : Addr} {fd_O : FuncData} (O : Ok P wd K mg base 1 "is_whole" ["thing"] spWhole f_O fd_O) {f_O2 : Addr} {fd_O2 : FuncData} (O2 : Ok P wd K mg base 1 "divisor_of" ["fraction"] (spDivOf K) f_O2 fd_O2) (F : At K mg "is_fraction" 22 f fd) : Ok P wd K mg base 2 "is_fraction" ["thing"] (spFrac K) f fd := by
  refine ⟨F.g, F.F.kp, F.F.bindsN fun _ _ _ _ _ _ us hl => match us, hl with | [_], _ => rfl, F.F.ok sc_is_fraction len1 fun cdv A outer s H vs Q E hr h => ?_⟩
  obtain ⟨g, x, hok, rfl, hx, k⟩ := h
  refine ⟨_, PSs.nox (pss_cons (ps_if (PW.pt (pw_or (pt_not (pt_val (pIsi T.isi (pv 0) (pTy (nm := "tuple") T.tuple (by decide +kernel))))) (pw_or (qNe (pLen T.len (pv 0)) pe_int)
      (pw_or (pt_not (pt_val (pCall1 O hr (pIx0 (pv 0))))) (pw_or1 (pt_not (pt_val (pCall1 O hr (pIx1 (pv 0)))))))))) (pss_one (ps_ret pe_bl)) pss_nil)
    (pss_cons (ps_if (qLt (pIx1 (pv 0)) pe_int) (pss_one (ps_ret pe_bl)) pss_nil)
    (pss_one (ps_ret (vEq (pCall1 O2 hr (pv 0)) pe_int))))), ?_⟩
  have va : EvP (tVar 0) (L2.start ["thing"] [x]) H (.fr K g) := e_var rfl hx
  refine q_whenF (et_or (a := false) (b := false) (et_not (a := true) (t_B (e_isTup va (kit_ty (by decide +kernel))))) fun _ => et_or (a := false) (b := false) (et_is (t_test (e_ne (x := .int 2) (y := .int 2) rfl (e_len2 va) e_c)) (by decide)) fun _ =>
    et_or (a := false) (b := false) (et_not (a := true) (t_B (u_whole (e_num va)))) fun _ => et_not (a := true) (t_B (u_whole (e_den va)))) fun H1 e1 => ?_
  have va1 := va.mono e1
  refine q_whenF (et_is (t_test (e_I0 (i := (g.den : Int)) (j := 1) (e_den va1) e_c)) (decide_eq_false (by have := g.den_pos; omega))) fun H2 e2 => ?_
  have va2 := va1.mono e2
  exact s_retP (e_eq (x := .int 1) (y := .int 1) rfl (u_divOf va2) e_c) fun v H3 e3 hv => k v H3 ((e1.trans e2).trans e3) hv
/-! #### numbers: one, two -/
structure G1 where
  w : Rat
  x : El
structure G2 where
  w : Rat
  x : El
  y : El
def okE1 (m : Nat) (g : G1) : Prop := Irr g.w ∧ Sz 7 g.w ∧ ESz m g.x
def okE2 (m : Nat) (g : G2) : Prop := Irr g.w ∧ Sz 7 g.w ∧ ESz m g.x ∧ ESz m g.y
section
variable {σ : L2.St} {H : Hp} {ta : TE} {w : Rat} {x : El}
theorem e_part (h : EvP ta σ H (.rn K w x)) : EvP (tOp (rIxT K) ta (tC (.int 0))) σ H (.fr K x.a) := e_ix0 h
theorem e_und (h : EvP ta σ H (.rn K w x)) : EvP (tOp (rIxT K) ta (tC (.int 1))) σ H (.fr K (U w x.b)) := e_ix1 h
end
abbrev spNumber (K : PySem.W.Frag) : Sp := sp1 (okE1 3000) (fun g => .rn K g.w g.x) (fun _ => .c (.bl true))
theorem u_number {σ : L2.St} {H : Hp} {ta : TE} {w : Rat} {x : El} (i : Irr w) (hw : Sz 7 w) (hx : ESz 3000 x) (h : EvP ta σ H (.rn K w x)) : EvP (tCall (spNumber K) [] E0 (tCons ta tNil)) σ H (.c (.bl true)) := e_call1 (⟨w, x⟩ : G1) ⟨i, hw, hx⟩ h
theorem sc_is_number : FnScope ["thing"] ["thing"] (defScope (top 24)) := ⟨rfl, rfl, rfl, by decide +kernel, rfl, by decide +kernel, by decide +kernel⟩
theorem ok_is_number {f : Addr} {fd : FuncData} (T : Txt K mg z o n) {f_O : Addr} {fd_O : FuncData} (O : Ok P wd K mg base 2 "is_fraction" ["thing"] (spFrac K) f_O fd_O) {f_O2 : Addr} {fd_O2 : FuncData} (O2 : Ok P wd K mg base 2 "root_in" ["one"] (spIn K) f_O2 fd_O2) {f_O3 : Addr} {fd_O3 : FuncData} (O3 : Ok P wd K mg base 1 "size_of" ["one"] (spSize K) f_O3 fd_O3) (F : At K mg "is_number" 24 f fd) : Ok P wd K mg base 3 "is_number" ["thing"] (spNumber K) f fd := by
  refine ⟨F.g, F.F.kp, F.F.bindsN fun _ _ _ _ _ _ us hl => match us, hl with | [_], _ => rfl, F.F.ok sc_is_number len1 fun cdv A outer s H vs Q E hr h => ?_⟩
  obtain ⟨g, x, hok, rfl, hx, k⟩ := h
  obtain ⟨w, q⟩ := g
  obtain ⟨iw, hw, hq⟩ := hok
  refine ⟨_, PSs.nox (pss_cons (ps_if (PW.pt (pw_or (pt_not (pt_val (pIsi T.isi (pv 0) (pTy (nm := "tuple") T.tuple (by decide +kernel))))) (pw_or (qNe (pLen T.len (pv 0)) pe_int)
      (pw_or (pt_not (pt_val (pCall1 O hr (pIx0 (pv 0))))) (pw_or1 (pt_not (pt_val (pCall1 O hr (pIx1 (pv 0)))))))))) (pss_one (ps_ret pe_bl)) pss_nil)
    (pss_one (ps_ret (pe_or (vEqD hr.units (pIx1 (pv 0)) (pGlob T.zero)) (pe_one (vIsN (pCall1 O2 hr (pCall1 O3 hr (pIx1 (pv 0)))))))))), ?_⟩
  have va : EvP (tVar 0) (L2.start ["thing"] [x]) H (.rn K w q) := e_var rfl hx
  refine q_whenF (et_or (a := false) (b := false) (et_not (a := true) (t_B (e_isTup va (kit_ty (by decide +kernel))))) fun _ => et_or (a := false) (b := false) (et_is (t_test (e_ne (x := .int 2) (y := .int 2) rfl (e_len2 va) e_c)) (by decide)) fun _ =>
    et_or (a := false) (b := false) (et_not (a := true) (t_B (u_frac (e_part va)))) fun _ => et_not (a := true) (t_B (u_frac (e_und va)))) fun H1 e1 => ?_
  have va1 := va.mono e1
  have hz : EvP (tOp (rEqD K) (tOp (rIxT K) (tVar 0) (tC (.int 1))) (tC (.ref z))) (L2.start ["thing"] [x]) H1 (.c (.bl (decide (q.b = 0)))) :=
    (e_eqD dt_fr dt_fr (sh_fr _) (sh_fr _) (e_und va1) (e_g (T.tz H1))).cast (by rw [eqv_fr]; exact congrArg (fun b => Ty.c (V.bl b)) (decide_eq_decide.mpr (U_eq_zero iw)))
  by_cases hb : q.b = 0
  · rw [decide_eq_true hb] at hz
    exact s_retP (e_orV (b := true) hz fun q => nomatch q) fun v H2 e2 hv => k v H2 (e1.trans e2) hv
  · rw [decide_eq_false hb] at hz
    refine s_retP (e_orV (b := true) hz fun _ => e_isN (A := .c .non) (u_inN ?_ Rat.abs_nonneg (U_nosq iw hb) (u_size (e_und va1))) fun x H hx => by cases hx; rfl) fun v H2 e2 hv => k v H2 (e1.trans e2) hv
    exact ((U_sz hw hq.2).mono (by decide)).abs
/-! #### is_plain, made, root_of -/
abbrev spPlain (K : PySem.W.Frag) : Sp := sp1 (fun g : G1 => Irr g.w) (fun g => .rn K g.w g.x) (fun g => .c (.bl (decide (g.x.b = 0))))
theorem u_plain {σ : L2.St} {H : Hp} {ta : TE} {w : Rat} {x : El} (i : Irr w) (h : EvP ta σ H (.rn K w x)) : EvP (tCall (spPlain K) [] E0 (tCons ta tNil)) σ H (.c (.bl (decide (x.b = 0)))) := e_call1 (⟨w, x⟩ : G1) i h
theorem sc_is_plain : FnScope ["number"] ["number"] (defScope (top 25)) := ⟨rfl, rfl, rfl, by decide +kernel, rfl, by decide +kernel, by decide +kernel⟩
theorem ok_is_plain {f : Addr} {fd : FuncData} (T : Txt K mg z o n) (F : At K mg "is_plain" 25 f fd) : Ok P wd K mg base 1 "is_plain" ["number"] (spPlain K) f fd := by
  refine ⟨F.g, F.F.kp, F.F.bindsN fun _ _ _ _ _ _ us hl => match us, hl with | [_], _ => rfl, F.F.ok sc_is_plain len1 fun cdv A outer s H vs Q E hr h => ?_⟩
  obtain ⟨g, x, hok, rfl, hx, k⟩ := h
  obtain ⟨w, q⟩ := g
  refine ⟨_, PSs.nox (pss_one (ps_ret (vEqD hr.units (pIx1 (pv 0)) (pGlob T.zero)))), ?_⟩
  have va : EvP (tVar 0) (L2.start ["number"] [x]) H (.rn K w q) := e_var rfl hx
  exact s_retP ((e_eqD dt_fr dt_fr (sh_fr _) (sh_fr _) (e_und va) (e_g (T.tz H))).cast (by rw [eqv_fr]; exact congrArg (fun b => Ty.c (V.bl b)) (decide_eq_decide.mpr (U_eq_zero hok)))) k
theorem sz_int1 {i : Int} (h : i = 1 ∨ i = 0 ∨ i = -1) : Sz 1 (i : Rat) := by
  refine ⟨?_, by show 1 < 2 ^ 1; decide⟩
  show i.natAbs < 2
  omega
theorem sg_or (q : Rat) : sg q = 1 ∨ sg q = 0 ∨ sg q = -1 := by
  rcases sg_cases q with ⟨_, e⟩ | ⟨_, e⟩ | ⟨_, e⟩ <;> rw [e] <;> decide
/-- a whole number and 1: a fraction -/
theorem e_frI {σ : L2.St} {H : Hp} {ta : TE} {i : Int} (h : EvP ta σ H (.c (.int i))) : EvP (tTup (tCons ta (tCons (tC (.int 1)) tNil))) σ H (.fr K (i : Rat)) := e_t2 (A := .c (.int i)) (B := .c (.int 1)) h e_c
structure GM where
  a : Rat
  u : Rat
  o : Option Rat
def okMade (g : GM) : Prop := Sz 1900 g.a ∧ Sz 1900 g.u ∧ match g.o with
  | some r => 0 ≤ r ∧ r * r = g.u.abs ∧ Sz 1900 r
  | none => ∀ r : Rat, r * r ≠ g.u.abs
def madeT (K : PySem.W.Frag) (g : GM) : Ty := match g.o with
  | some r => .t2 K (.fr K (g.a + (sg g.u : Rat) * r)) (.fr K 0)
  | none => .t2 K (.fr K g.a) (.fr K g.u)
abbrev spMade (K : PySem.W.Frag) : Sp := sp2 okMade (fun g => .fr K g.a) (fun g => .fr K g.u) (madeT K)
theorem sc_made : FnScope ["part", "under", "root"] ["part", "under"] (defScope (top 26)) := ⟨rfl, rfl, rfl, by decide +kernel, rfl, by decide +kernel, by decide +kernel⟩
theorem ok_made {f : Addr} {fd : FuncData} (T : Txt K mg z o n) {f_O : Addr} {fd_O : FuncData} (O : Ok P wd K mg base 2 "root_in" ["one"] (spIn K) f_O fd_O) {f_O2 : Addr} {fd_O2 : FuncData} (O2 : Ok P wd K mg base 1 "size_of" ["one"] (spSize K) f_O2 fd_O2) {f_O3 : Addr} {fd_O3 : FuncData} (O3 : Ok P wd K mg base 3 "plus" ["one", "other"] (spPlus K) f_O3 fd_O3) {f_O4 : Addr} {fd_O4 : FuncData} (O4 : Ok P wd K mg base 3 "times" ["one", "other"] (spTimes K) f_O4 fd_O4) {f_O5 : Addr} {fd_O5 : FuncData} (O5 : Ok P wd K mg base 1 "sign_of" ["one"] (spSign K) f_O5 fd_O5) (F : At K mg "made" 26 f fd) : Ok P wd K mg base 4 "made" ["part", "under"] (spMade K) f fd := by
  refine ⟨F.g, F.F.kp, F.F.bindsN fun _ _ _ _ _ _ us hl => match us, hl with | [_, _], _ => rfl, F.F.ok sc_made len2 fun cdv A outer s H vs Q E hr h => ?_⟩
  obtain ⟨g, x, y, hok, rfl, hx, hy, k⟩ := h
  obtain ⟨a, u, r⟩ := g
  obtain ⟨ha, hu, hr2⟩ := hok
  refine ⟨_, PSs.nox (pss_cons (ps_set (i := 2) sc_made.nd rfl (.inl rfl) (pCall1 O hr (pCall1 O2 hr (pv 1)))) (pss_cons (ps_if (qIsN (pv 2)) (pss_one (ps_ret (pT2 (pv 0) (pv 1)))) pss_nil)
    (pss_one (ps_ret (pT2 (pCall2 O3 hr (pv 0) (pCall2 O4 hr (pT2 (pCall1 O5 hr (pv 1)) pe_int) (pv 2))) (pGlob T.zero)))))), ?_⟩
  have vu : EvP (tVar 1) (L2.start ["part", "under", "root"] [x, y]) H (.fr K u) := e_var rfl hy
  cases r with
  | some r =>
    obtain ⟨r0, rr, rz⟩ := hr2
    refine q_asgP (u_inY (hu.abs.mono (by decide)) r0 rr (u_size vu)) fun v H1 e1 hv => ?_
    have v0 : EvP (tVar 0) [some x, some y, some v] H1 (.fr K a) := e_var rfl ((Ty.fr K a).ex e1 hx)
    have v1 : EvP (tVar 1) [some x, some y, some v] H1 (.fr K u) := e_var rfl ((Ty.fr K u).ex e1 hy)
    have v2 : EvP (tVar 2) [some x, some y, some v] H1 (.fr K r) := e_var rfl hv
    refine q_whenF (t_test (e_isN v2 fun x H h => non_t2 h)) fun H2 e2 => ?_
    have s1 := sz_int1 (sg_or u)
    exact s_retP (e_t2 (K := K) (u_plus (ha.mono (by decide)) ((s1.mul rz).mono (by decide)) (v0.mono e2) (u_times (s1.mono (by decide)) (rz.mono (by decide)) (e_frI (u_sign (v1.mono e2))) (v2.mono e2))) (e_g (T.tz H2)))
      fun v H3 e3 hv => k v H3 ((e1.trans e2).trans e3) hv
  | none =>
    refine q_asgP (u_inN (hu.abs.mono (by decide)) Rat.abs_nonneg hr2 (u_size vu)) fun v H1 e1 hv => ?_
    cases hv
    refine q_whenT (t_test (e_isN (A := .c .non) (e_var rfl rfl) fun x H h => by cases h; rfl)) fun H2 e2 => ?_
    exact s_retP (e_t2 (K := K) (e_var rfl ((Ty.fr K a).ex (e1.trans e2) hx)) (e_var rfl ((Ty.fr K u).ex (e1.trans e2) hy))) fun v H3 e3 hv => k v H3 ((e1.trans e2).trans e3) hv
/-- made of a number's own two fractions gives it again -/
theorem u_made {σ : L2.St} {H : Hp} {ta tb : TE} {w : Rat} {x : El} (i : Irr w) (hw : Sz 7 w) (hx : ESz 900 x) (h1 : EvP ta σ H (.fr K x.a)) (h2 : EvP tb σ H (.fr K (U w x.b))) : EvP (tCall (spMade K) [] E0 (tCons ta (tCons tb tNil))) σ H (.rn K w x) := by
  have hu : Sz 1900 (U w x.b) := (U_sz hw hx.2).mono (by decide)
  by_cases hb : x.b = 0
  · refine (e_call2 (A := fun g : GM => .fr K g.a) (B := fun g => .fr K g.u) (R := madeT K) (⟨x.a, U w x.b, some 0⟩ : GM) ⟨hx.1.mono (by decide), hu, Rat.le_refl, ?_, Sz.zero.mono (by decide)⟩ h1 h2).cast ?_
    · show Ty.t2 K (.fr K (x.a + (sg (U w x.b) : Rat) * 0)) (.fr K 0) = Ty.t2 K (.fr K x.a) (.fr K (U w x.b))
      rw [Rat.mul_zero, Rat.add_zero, hb, U_zero]
    · rw [hb, U_zero, Rat.zero_mul]
      rfl
  · exact e_call2 (A := fun g : GM => .fr K g.a) (B := fun g => .fr K g.u) (R := madeT K) (⟨x.a, U w x.b, none⟩ : GM) ⟨hx.1.mono (by decide), hu, U_nosq i hb⟩ h1 h2
/-- the root of a fraction from 0 on, told as a number of a field -/
structure GR where
  u : Rat
  w : Rat
  x : El
def okRootOf (g : GR) : Prop := 0 ≤ g.u ∧ Sz 1900 g.u ∧ ((∃ r, 0 ≤ r ∧ r * r = g.u ∧ Sz 1900 r ∧ g.x = ⟨r, 0⟩) ∨ (∀ r : Rat, r * r ≠ g.u) ∧ g.x = ⟨0, 1⟩ ∧ g.w = g.u)
abbrev spRootOf (K : PySem.W.Frag) : Sp := sp1 okRootOf (fun g => .fr K g.u) (fun g => .rn K g.w g.x)
theorem u_rootOf {σ : L2.St} {H : Hp} {ta : TE} (g : GR) (hok : okRootOf g) (h : EvP ta σ H (.fr K g.u)) : EvP (tCall (spRootOf K) [] E0 (tCons ta tNil)) σ H (.rn K g.w g.x) := e_call1 g hok h
theorem sc_root_of : FnScope ["fraction"] ["fraction"] (defScope (top 27)) := ⟨rfl, rfl, rfl, by decide +kernel, rfl, by decide +kernel, by decide +kernel⟩
theorem ok_root_of {f : Addr} {fd : FuncData} (T : Txt K mg z o n) {f_O : Addr} {fd_O : FuncData} (O : Ok P wd K mg base 4 "made" ["part", "under"] (spMade K) f_O fd_O) (F : At K mg "root_of" 27 f fd) : Ok P wd K mg base 5 "root_of" ["fraction"] (spRootOf K) f fd := by
  refine ⟨F.g, F.F.kp, F.F.bindsN fun _ _ _ _ _ _ us hl => match us, hl with | [_], _ => rfl, F.F.ok sc_root_of len1 fun cdv A outer s H vs Q E hr h => ?_⟩
  obtain ⟨g, x, hok, rfl, hx, k⟩ := h
  obtain ⟨u, w, q⟩ := g
  obtain ⟨u0, uz, hq⟩ := hok
  refine ⟨_, PSs.nox (pss_cons (ps_if (qLt (pIx0 (pv 0)) pe_int) pss_never pss_nil) (pss_one (ps_ret (pCall2 O hr (pGlob T.zero) (pv 0))))), ?_⟩
  have va : EvP (tVar 0) (L2.start ["fraction"] [x]) H (.fr K u) := e_var rfl hx
  refine q_whenF (et_is (t_test (e_I0 (i := u.num) (j := 0) (e_num va) e_c)) (decide_eq_false (by have : 0 ≤ u.num := Rat.num_nonneg.mpr u0; omega))) fun H1 e1 => ?_
  have va1 := va.mono e1
  have ea : u.abs = u := Rat.abs_of_nonneg u0
  rcases hq with ⟨r, r0, rr, rz, rfl⟩ | ⟨hn, rfl, hwu⟩
  · refine s_retP ((e_call2 (A := fun g : GM => .fr K g.a) (B := fun g => .fr K g.u) (R := madeT K) (⟨0, u, some r⟩ : GM) ⟨Sz.zero.mono (by decide), uz, r0, by rw [ea]; exact rr, rz⟩ (e_g (T.tz H1)) va1).cast ?_) fun v H2 e2 hv => k v H2 (e1.trans e2) hv
    show Ty.t2 K (.fr K (0 + (sg u : Rat) * r)) (.fr K 0) = Ty.t2 K (.fr K r) (.fr K (U w 0))
    have e : (sg u : Rat) * r = r := by
      rcases sg_cases u with ⟨h, e⟩ | ⟨h, e⟩ | ⟨h, e⟩
      · rw [e]
        exact Rat.one_mul r
      · have : r * r = 0 := rr.trans h
        have : r = 0 := by rcases Rat.mul_eq_zero.mp this with z | z <;> exact z
        rw [this, Rat.mul_zero]
      · grind
    rw [Rat.zero_add, e, U_zero]
  · have hwu : w = u := hwu
    subst hwu
    refine s_retP ((e_call2 (A := fun g : GM => .fr K g.a) (B := fun g => .fr K g.u) (R := madeT K) (⟨0, w, none⟩ : GM) ⟨Sz.zero.mono (by decide), uz, fun r => by rw [ea]; exact hn r⟩ (e_g (T.tz H1)) va1).cast ?_) fun v H2 e2 hv => k v H2 (e1.trans e2) hv
    show Ty.t2 K (.fr K 0) (.fr K w) = Ty.t2 K (.fr K 0) (.fr K (U w 1))
    have : U w 1 = w := by
      unfold U
      rw [show (1 : Rat).abs = 1 by rfl]
      grind
    rw [this]
/-! #### under_grown, share_of -/
abbrev spGrown (K : PySem.W.Frag) : Sp := sp2 (fun g : Rat × Rat => Sz 3999 g.1 ∧ Sz 1900 g.2) (fun g => .fr K g.1) (fun g => .fr K g.2) (fun g => .fr K (g.2 * g.2.abs * g.1))
theorem u_grown {σ : L2.St} {H : Hp} {ta tb : TE} {w b c : Rat} (hb : Sz 3999 (U w b)) (hc : Sz 1900 c) (h1 : EvP ta σ H (.fr K (U w b))) (h2 : EvP tb σ H (.fr K c)) : EvP (tCall (spGrown K) [] E0 (tCons ta (tCons tb tNil))) σ H (.fr K (U w (c * b))) :=
  (e_call2 (A := fun g : Rat × Rat => .fr K g.1) (B := fun g => .fr K g.2) (R := fun g => .fr K (g.2 * g.2.abs * g.1)) (U w b, c) ⟨hb, hc⟩ h1 h2).cast (congrArg (Ty.fr K) (U_grown b c))
theorem sc_under_grown : FnScope ["under", "by"] ["under", "by"] (defScope (top 28)) := ⟨rfl, rfl, rfl, by decide +kernel, rfl, by decide +kernel, by decide +kernel⟩
theorem ok_under_grown {f : Addr} {fd : FuncData} (T : Txt K mg z o n) {f_O : Addr} {fd_O : FuncData} (O : Ok P wd K mg base 3 "times" ["one", "other"] (spTimes K) f_O fd_O) {f_O2 : Addr} {fd_O2 : FuncData} (O2 : Ok P wd K mg base 1 "size_of" ["one"] (spSize K) f_O2 fd_O2) (F : At K mg "under_grown" 28 f fd) : Ok P wd K mg base 4 "under_grown" ["under", "by"] (spGrown K) f fd := by
  refine ⟨F.g, F.F.kp, F.F.bindsN fun _ _ _ _ _ _ us hl => match us, hl with | [_, _], _ => rfl, F.F.ok sc_under_grown len2 fun cdv A outer s H vs Q E hr h => ?_⟩
  obtain ⟨g, x, y, hok, rfl, hx, hy, k⟩ := h
  obtain ⟨u, c⟩ := g
  obtain ⟨hu, hc⟩ := hok
  refine ⟨_, PSs.nox (pss_one (ps_ret (pCall2 O hr (pCall2 O hr (pv 1) (pCall1 O2 hr (pv 1))) (pv 0)))), ?_⟩
  have v1 : EvP (tVar 1) (L2.start ["under", "by"] [x, y]) H (.fr K c) := e_var rfl hy
  exact s_retP (u_times ((hc.mul hc.abs).mono (by decide)) hu (u_times (hc.mono (by decide)) (hc.abs.mono (by decide)) v1 (u_size v1)) (e_var rfl hx)) k
structure GS where
  w : Rat
  b : Rat
  d : Rat
abbrev spShare (K : PySem.W.Frag) : Sp := sp2 (fun g : GS => Irr g.w ∧ Sz 7 g.w ∧ Sz 900 g.b ∧ Sz 900 g.d ∧ g.b ≠ 0) (fun g => .fr K (U g.w g.b)) (fun g => .fr K (U g.w g.d)) (fun g => .fr K (g.d / g.b))
theorem u_share {σ : L2.St} {H : Hp} {ta tb : TE} {w b d : Rat} (i : Irr w) (hw : Sz 7 w) (hb : Sz 900 b) (hd : Sz 900 d) (b0 : b ≠ 0) (h1 : EvP ta σ H (.fr K (U w b))) (h2 : EvP tb σ H (.fr K (U w d))) :
    EvP (tCall (spShare K) [] E0 (tCons ta (tCons tb tNil))) σ H (.fr K (d / b)) := e_call2 (⟨w, b, d⟩ : GS) ⟨i, hw, hb, hd, b0⟩ h1 h2
theorem sc_share_of : FnScope ["one", "other", "found"] ["one", "other"] (defScope (top 29)) := ⟨rfl, rfl, rfl, by decide +kernel, rfl, by decide +kernel, by decide +kernel⟩
theorem ok_share_of {f : Addr} {fd : FuncData} (T : Txt K mg z o n) {f_O : Addr} {fd_O : FuncData} (O : Ok P wd K mg base 2 "root_in" ["one"] (spIn K) f_O fd_O) {f_O2 : Addr} {fd_O2 : FuncData} (O2 : Ok P wd K mg base 3 "over" ["one", "other"] (spOver K) f_O2 fd_O2) {f_O3 : Addr} {fd_O3 : FuncData} (O3 : Ok P wd K mg base 1 "size_of" ["one"] (spSize K) f_O3 fd_O3) {f_O4 : Addr} {fd_O4 : FuncData} (O4 : Ok P wd K mg base 3 "times" ["one", "other"] (spTimes K) f_O4 fd_O4) {f_O5 : Addr} {fd_O5 : FuncData} (O5 : Ok P wd K mg base 1 "sign_of" ["one"] (spSign K) f_O5 fd_O5) (F : At K mg "share_of" 29 f fd) : Ok P wd K mg base 4 "share_of" ["one", "other"] (spShare K) f fd := by
  refine ⟨F.g, F.F.kp, F.F.bindsN fun _ _ _ _ _ _ us hl => match us, hl with | [_, _], _ => rfl, F.F.ok sc_share_of len2 fun cdv A outer s H vs Q E hr h => ?_⟩
  obtain ⟨g, x, y, hok, rfl, hx, hy, k⟩ := h
  obtain ⟨w, b, d⟩ := g
  obtain ⟨iw, hw, hb, hd, b0⟩ := hok
  have b0 : b ≠ 0 := b0
  refine ⟨_, PSs.nox (pss_cons (ps_set (i := 2) sc_share_of.nd rfl (.inl rfl) (pCall1 O hr (pCall2 O2 hr (pCall1 O3 hr (pv 1)) (pCall1 O3 hr (pv 0))))) (pss_cons (ps_if (qIsN (pv 2)) pss_never pss_nil)
    (pss_one (ps_ret (pCall2 O4 hr (pT2 (pMul (pCall1 O5 hr (pv 0)) (pCall1 O5 hr (pv 1))) pe_int) (pv 2)))))), ?_⟩
  have v0 : EvP (tVar 0) (L2.start ["one", "other", "found"] [x, y]) H (.fr K (U w b)) := e_var rfl hx
  have v1 : EvP (tVar 1) (L2.start ["one", "other", "found"] [x, y]) H (.fr K (U w d)) := e_var rfl hy
  have zb := (U_sz hw hb).abs
  have zd := (U_sz hw hd).abs
  have nb : (U w b).abs ≠ 0 := fun q => b0 ((U_eq_zero iw).mp (Rat.abs_eq_zero_iff.mp q))
  have zr := (hd.div hb).abs
  refine q_asgP (u_inY ((zd.div zb).mono (by decide)) Rat.abs_nonneg (U_share iw b0) (u_over (zd.mono (by decide)) (zb.mono (by decide)) nb (u_size v1) (u_size v0))) fun v H1 e1 hv => ?_
  have v0 : EvP (tVar 0) [some x, some y, some v] H1 (.fr K (U w b)) := e_var rfl ((Ty.fr K _).ex e1 hx)
  have v1 : EvP (tVar 1) [some x, some y, some v] H1 (.fr K (U w d)) := e_var rfl ((Ty.fr K _).ex e1 hy)
  have v2 : EvP (tVar 2) [some x, some y, some v] H1 (.fr K (d / b).abs) := e_var rfl hv
  refine q_whenF (t_test (e_isN v2 fun x H h => non_t2 h)) fun H2 e2 => ?_
  have sgs : sg (U w b) * sg (U w d) = 1 ∨ sg (U w b) * sg (U w d) = 0 ∨ sg (U w b) * sg (U w d) = -1 := by
    rcases sg_or (U w b) with e | e | e <;> rcases sg_or (U w d) with e' | e' | e' <;> rw [e, e'] <;> decide
  have sm : ∀ q : Rat, (sg q).natAbs < 2 ^ 1 := fun q => by
    rcases sg_or q with e | e | e <;> rw [e] <;> decide
  refine s_retP ((u_times ((sz_int1 sgs).mono (by decide)) (zr.mono (by decide)) (e_frI (e_I (C := CMulW) (g := fun i j => V.int (i * j)) (mulSz (sm _) (sm _) (by decide) (by decide) (by decide)) (u_sign (v0.mono e2)) (u_sign (v1.mono e2)))) (v2.mono e2)).cast ?_)
    fun v H3 e3 hv => k v H3 ((e1.trans e2).trans e3) hv
  exact congrArg (Ty.fr K) (U_share_sg iw b d)
/-! #### sums, products -/
section
variable {σ : L2.St} {H : Hp} {ta tb : TE} {w : Rat} {x y : El}
abbrev spRPlus (K : PySem.W.Frag) : Sp := sp2 (okE2 128) (fun g => .rn K g.w g.x) (fun g => .rn K g.w g.y) (fun g => .rn K g.w (g.x.add g.y))
abbrev spRMinus (K : PySem.W.Frag) : Sp := sp2 (okE2 128) (fun g => .rn K g.w g.x) (fun g => .rn K g.w g.y) (fun g => .rn K g.w (g.x.sub g.y))
abbrev spRTimes (K : PySem.W.Frag) : Sp := sp2 (okE2 128) (fun g => .rn K g.w g.x) (fun g => .rn K g.w g.y) (fun g => .rn K g.w (g.x.mul g.w g.y))
abbrev spRNeg (K : PySem.W.Frag) : Sp := sp1 (fun _ : G1 => True) (fun g => .rn K g.w g.x) (fun g => .rn K g.w g.x.neg)
abbrev spROver (K : PySem.W.Frag) : Sp := sp2 (fun g : G2 => okE2 20 g ∧ ¬ (g.y.a = 0 ∧ g.y.b = 0)) (fun g => .rn K g.w g.x) (fun g => .rn K g.w g.y) (fun g => .rn K g.w (g.x.mul g.w (g.y.inv g.w)))
abbrev spRSign (K : PySem.W.Frag) : Sp := sp1 (okE1 300) (fun g => .rn K g.w g.x) (fun g => .c (.int (g.x.sgn g.w)))
abbrev spRLess (K : PySem.W.Frag) : Sp := sp2 (okE2 128) (fun g => .rn K g.w g.x) (fun g => .rn K g.w g.y) (fun g => .c (.bl (decide ((g.x.sub g.y).sgn g.w < 0))))
theorem u_rplus (i : Irr w) (hw : Sz 7 w) (hx : ESz 128 x) (hy : ESz 128 y) (h1 : EvP ta σ H (.rn K w x)) (h2 : EvP tb σ H (.rn K w y)) : EvP (tCall (spRPlus K) [] E0 (tCons ta (tCons tb tNil))) σ H (.rn K w (x.add y)) := e_call2 (⟨w, x, y⟩ : G2) ⟨i, hw, hx, hy⟩ h1 h2
theorem u_rminus (i : Irr w) (hw : Sz 7 w) (hx : ESz 128 x) (hy : ESz 128 y) (h1 : EvP ta σ H (.rn K w x)) (h2 : EvP tb σ H (.rn K w y)) : EvP (tCall (spRMinus K) [] E0 (tCons ta (tCons tb tNil))) σ H (.rn K w (x.sub y)) := e_call2 (⟨w, x, y⟩ : G2) ⟨i, hw, hx, hy⟩ h1 h2
theorem u_rtimes (i : Irr w) (hw : Sz 7 w) (hx : ESz 128 x) (hy : ESz 128 y) (h1 : EvP ta σ H (.rn K w x)) (h2 : EvP tb σ H (.rn K w y)) : EvP (tCall (spRTimes K) [] E0 (tCons ta (tCons tb tNil))) σ H (.rn K w (x.mul w y)) := e_call2 (⟨w, x, y⟩ : G2) ⟨i, hw, hx, hy⟩ h1 h2
theorem u_rneg (h1 : EvP ta σ H (.rn K w x)) : EvP (tCall (spRNeg K) [] E0 (tCons ta tNil)) σ H (.rn K w x.neg) := e_call1 (⟨w, x⟩ : G1) trivial h1
theorem u_rover (i : Irr w) (hw : Sz 7 w) (hx : ESz 20 x) (hy : ESz 20 y) (y0 : ¬ (y.a = 0 ∧ y.b = 0)) (h1 : EvP ta σ H (.rn K w x)) (h2 : EvP tb σ H (.rn K w y)) : EvP (tCall (spROver K) [] E0 (tCons ta (tCons tb tNil))) σ H (.rn K w (x.mul w (y.inv w))) := e_call2 (⟨w, x, y⟩ : G2) ⟨⟨i, hw, hx, hy⟩, y0⟩ h1 h2
theorem u_rsign (i : Irr w) (hw : Sz 7 w) (hx : ESz 300 x) (h1 : EvP ta σ H (.rn K w x)) : EvP (tCall (spRSign K) [] E0 (tCons ta tNil)) σ H (.c (.int (x.sgn w))) := e_call1 (⟨w, x⟩ : G1) ⟨i, hw, hx⟩ h1
theorem u_rless (i : Irr w) (hw : Sz 7 w) (hx : ESz 128 x) (hy : ESz 128 y) (h1 : EvP ta σ H (.rn K w x)) (h2 : EvP tb σ H (.rn K w y)) : EvP (tCall (spRLess K) [] E0 (tCons ta (tCons tb tNil))) σ H (.c (.bl (decide ((x.sub y).sgn w < 0)))) := e_call2 (⟨w, x, y⟩ : G2) ⟨i, hw, hx, hy⟩ h1 h2
/-- a number written as a tuple of its fractions -/
theorem e_rn {p u : Rat} (h1 : EvP ta σ H (.fr K p)) (h2 : EvP tb σ H (.fr K u)) (hp : p = x.a) (hu : u = U w x.b) : EvP (tTup (tCons ta (tCons tb tNil))) σ H (.rn K w x) := by
  subst hp hu
  exact e_t2 h1 h2
end
theorem sc_root_plus : FnScope ["one", "other", "part"] ["one", "other"] (defScope (top 30)) := ⟨rfl, rfl, rfl, by decide +kernel, rfl, by decide +kernel, by decide +kernel⟩
theorem ok_root_plus {f : Addr} {fd : FuncData} (T : Txt K mg z o n) {f_O : Addr} {fd_O : FuncData} (O : Ok P wd K mg base 3 "plus" ["one", "other"] (spPlus K) f_O fd_O) {f_O2 : Addr} {fd_O2 : FuncData} (O2 : Ok P wd K mg base 1 "is_plain" ["number"] (spPlain K) f_O2 fd_O2) {f_O3 : Addr} {fd_O3 : FuncData} (O3 : Ok P wd K mg base 4 "under_grown" ["under", "by"] (spGrown K) f_O3 fd_O3) {f_O4 : Addr} {fd_O4 : FuncData} (O4 : Ok P wd K mg base 4 "share_of" ["one", "other"] (spShare K) f_O4 fd_O4) (F : At K mg "root_plus" 30 f fd) : Ok P wd K mg base 5 "root_plus" ["one", "other"] (spRPlus K) f fd := by
  refine ⟨F.g, F.F.kp, F.F.bindsN fun _ _ _ _ _ _ us hl => match us, hl with | [_, _], _ => rfl, F.F.ok sc_root_plus len2 fun cdv A outer s H vs Q E hr h => ?_⟩
  obtain ⟨g, x, y, hok, rfl, hx, hy, k⟩ := h
  obtain ⟨w, a, b⟩ := g
  obtain ⟨iw, hw, ha, hb⟩ := hok
  refine ⟨_, PSs.nox (pss_cons (ps_set (i := 2) sc_root_plus.nd rfl (.inl rfl) (pCall2 O hr (pIx0 (pv 0)) (pIx0 (pv 1)))) (pss_cons (ps_if (pt_val (pCall1 O2 hr (pv 0))) (pss_one (ps_ret (pT2 (pv 2) (pIx1 (pv 1))))) pss_nil)
    (pss_cons (ps_if (pt_val (pCall1 O2 hr (pv 1))) (pss_one (ps_ret (pT2 (pv 2) (pIx1 (pv 0))))) pss_nil)
    (pss_one (ps_ret (pT2 (pv 2) (pCall2 O3 hr (pIx1 (pv 0)) (pCall2 O hr (pGlob T.one) (pCall2 O4 hr (pIx1 (pv 0)) (pIx1 (pv 1)))))))))) ), ?_⟩
  have v0 : EvP (tVar 0) (L2.start ["one", "other", "part"] [x, y]) H (.rn K w a) := e_var rfl hx
  have v1 : EvP (tVar 1) (L2.start ["one", "other", "part"] [x, y]) H (.rn K w b) := e_var rfl hy
  refine q_asgP (u_plus (ha.1.mono (by decide)) (hb.1.mono (by decide)) (e_part v0) (e_part v1)) fun v H1 e1 hv => ?_
  have v0 : EvP (tVar 0) [some x, some y, some v] H1 (.rn K w a) := e_var rfl ((Ty.rn K _ _).ex e1 hx)
  have v1 : EvP (tVar 1) [some x, some y, some v] H1 (.rn K w b) := e_var rfl ((Ty.rn K _ _).ex e1 hy)
  have v2 : EvP (tVar 2) [some x, some y, some v] H1 (.fr K (a.a + b.a)) := e_var rfl hv
  by_cases a0 : a.b = 0
  · refine q_whenT (et_is (t_B (u_plain iw v0)) (decide_eq_true a0)) fun H2 e2 => s_retP (e_rn (v2.mono e2) (e_und (v1.mono e2)) rfl ?_) fun v H3 e3 hv => k v H3 ((e1.trans e2).trans e3) hv
    show U w b.b = U w (a.b + b.b)
    rw [a0, Rat.zero_add]
  refine q_whenF (et_is (t_B (u_plain iw v0)) (decide_eq_false a0)) fun H2 e2 => ?_
  have v0 := v0.mono e2
  have v1 := v1.mono e2
  have v2 := v2.mono e2
  by_cases b0 : b.b = 0
  · refine q_whenT (et_is (t_B (u_plain iw v1)) (decide_eq_true b0)) fun H3 e3 => s_retP (e_rn (v2.mono e3) (e_und (v0.mono e3)) rfl ?_) fun v H4 e4 hv => k v H4 (((e1.trans e2).trans e3).trans e4) hv
    show U w a.b = U w (a.b + b.b)
    rw [b0, Rat.add_zero]
  refine q_whenF (et_is (t_B (u_plain iw v1)) (decide_eq_false b0)) fun H3 e3 => ?_
  have v0 := v0.mono e3
  have v1 := v1.mono e3
  have v2 := v2.mono e3
  have zs := hb.2.div ha.2
  refine s_retP (e_rn v2 (u_grown ((U_sz hw ha.2).mono (by decide)) ((Sz.one.add zs).mono (by decide)) (e_und v0) (u_plus (Sz.one.mono (by decide)) (zs.mono (by decide)) (e_g (T.to H3)) (u_share iw hw (ha.2.mono (by decide)) (hb.2.mono (by decide)) a0 (e_und v0) (e_und v1)))) rfl ?_)
    fun v H4 e4 hv => k v H4 (((e1.trans e2).trans e3).trans e4) hv
  show U w ((1 + b.b / a.b) * a.b) = U w (a.b + b.b)
  exact congrArg (U w) (by grind)
theorem sc_root_negated : FnScope ["one"] ["one"] (defScope (top 31)) := ⟨rfl, rfl, rfl, by decide +kernel, rfl, by decide +kernel, by decide +kernel⟩
theorem ok_root_negated {f : Addr} {fd : FuncData} {f_O : Addr} {fd_O : FuncData} (O : Ok P wd K mg base 1 "negated" ["one"] (spNeg K) f_O fd_O) (F : At K mg "root_negated" 31 f fd) : Ok P wd K mg base 2 "root_negated" ["one"] (spRNeg K) f fd := by
  refine ⟨F.g, F.F.kp, F.F.bindsN fun _ _ _ _ _ _ us hl => match us, hl with | [_], _ => rfl, F.F.ok sc_root_negated len1 fun cdv A outer s H vs Q E hr h => ?_⟩
  obtain ⟨g, x, hok, rfl, hx, k⟩ := h
  obtain ⟨w, a⟩ := g
  refine ⟨_, PSs.nox (pss_one (ps_ret (pT2 (pCall1 O hr (pIx0 (pv 0))) (pCall1 O hr (pIx1 (pv 0)))))), ?_⟩
  have v0 : EvP (tVar 0) (L2.start ["one"] [x]) H (.rn K w a) := e_var rfl hx
  exact s_retP (e_rn (u_neg (e_part v0)) (u_neg (e_und v0)) rfl (U_neg a.b).symm) k
theorem sc_root_minus : FnScope ["one", "other"] ["one", "other"] (defScope (top 32)) := ⟨rfl, rfl, rfl, by decide +kernel, rfl, by decide +kernel, by decide +kernel⟩
theorem ok_root_minus {f : Addr} {fd : FuncData} {f_O : Addr} {fd_O : FuncData} (O : Ok P wd K mg base 5 "root_plus" ["one", "other"] (spRPlus K) f_O fd_O) {f_O2 : Addr} {fd_O2 : FuncData} (O2 : Ok P wd K mg base 2 "root_negated" ["one"] (spRNeg K) f_O2 fd_O2) (F : At K mg "root_minus" 32 f fd) : Ok P wd K mg base 6 "root_minus" ["one", "other"] (spRMinus K) f fd := by
  refine ⟨F.g, F.F.kp, F.F.bindsN fun _ _ _ _ _ _ us hl => match us, hl with | [_, _], _ => rfl, F.F.ok sc_root_minus len2 fun cdv A outer s H vs Q E hr h => ?_⟩
  obtain ⟨g, x, y, hok, rfl, hx, hy, k⟩ := h
  obtain ⟨w, a, b⟩ := g
  obtain ⟨iw, hw, ha, hb⟩ := hok
  refine ⟨_, PSs.nox (pss_one (ps_ret (pCall2 O hr (pv 0) (pCall1 O2 hr (pv 1))))), ?_⟩
  exact s_retP (u_rplus (y := b.neg) iw hw ha hb.neg (e_var rfl hx) (u_rneg (e_var rfl hy))) k
theorem sc_root_times : FnScope ["one", "other", "share", "part"] ["one", "other"] (defScope (top 33)) := ⟨rfl, rfl, rfl, by decide +kernel, rfl, by decide +kernel, by decide +kernel⟩
theorem ok_root_times {f : Addr} {fd : FuncData} (T : Txt K mg z o n) {f_O : Addr} {fd_O : FuncData} (O : Ok P wd K mg base 3 "plus" ["one", "other"] (spPlus K) f_O fd_O) {f_O2 : Addr} {fd_O2 : FuncData} (O2 : Ok P wd K mg base 1 "is_plain" ["number"] (spPlain K) f_O2 fd_O2) {f_O3 : Addr} {fd_O3 : FuncData} (O3 : Ok P wd K mg base 4 "under_grown" ["under", "by"] (spGrown K) f_O3 fd_O3) {f_O4 : Addr} {fd_O4 : FuncData} (O4 : Ok P wd K mg base 4 "share_of" ["one", "other"] (spShare K) f_O4 fd_O4) {f_O5 : Addr} {fd_O5 : FuncData} (O5 : Ok P wd K mg base 3 "times" ["one", "other"] (spTimes K) f_O5 fd_O5) {f_O6 : Addr} {fd_O6 : FuncData} (O6 : Ok P wd K mg base 1 "size_of" ["one"] (spSize K) f_O6 fd_O6) (F : At K mg "root_times" 33 f fd) : Ok P wd K mg base 5 "root_times" ["one", "other"] (spRTimes K) f fd := by
  refine ⟨F.g, F.F.kp, F.F.bindsN fun _ _ _ _ _ _ us hl => match us, hl with | [_, _], _ => rfl, F.F.ok sc_root_times len2 fun cdv A outer s H vs Q E hr h => ?_⟩
  obtain ⟨g, x, y, hok, rfl, hx, hy, k⟩ := h
  obtain ⟨w, a, b⟩ := g
  obtain ⟨iw, hw, ha, hb⟩ := hok
  have ha : ESz 128 a := ha
  have hb : ESz 128 b := hb
  have hw : Sz 7 w := hw
  refine ⟨_, PSs.nox (pss_cons (ps_if (pt_val (pCall1 O2 hr (pv 0))) (pss_one (ps_ret (pT2 (pCall2 O5 hr (pIx0 (pv 0)) (pIx0 (pv 1))) (pCall2 O3 hr (pIx1 (pv 1)) (pIx0 (pv 0)))))) pss_nil)
    (pss_cons (ps_if (pt_val (pCall1 O2 hr (pv 1))) (pss_one (ps_ret (pT2 (pCall2 O5 hr (pIx0 (pv 0)) (pIx0 (pv 1))) (pCall2 O3 hr (pIx1 (pv 0)) (pIx0 (pv 1)))))) pss_nil)
    (pss_cons (ps_set (i := 2) sc_root_times.nd rfl (.inl rfl) (pCall2 O4 hr (pIx1 (pv 0)) (pIx1 (pv 1))))
    (pss_cons (ps_set (i := 3) sc_root_times.nd rfl (.inl rfl) (pCall2 O hr (pCall2 O5 hr (pIx0 (pv 0)) (pIx0 (pv 1))) (pCall2 O5 hr (pv 2) (pCall1 O6 hr (pIx1 (pv 0))))))
    (pss_one (ps_ret (pT2 (pv 3) (pCall2 O3 hr (pIx1 (pv 0)) (pCall2 O hr (pCall2 O5 hr (pIx0 (pv 0)) (pv 2)) (pIx0 (pv 1)))))))))) ), ?_⟩
  have v0 : EvP (tVar 0) (L2.start ["one", "other", "share", "part"] [x, y]) H (.rn K w a) := e_var rfl hx
  have v1 : EvP (tVar 1) (L2.start ["one", "other", "share", "part"] [x, y]) H (.rn K w b) := e_var rfl hy
  have ua : Sz 3999 (U w a.b) := (U_sz hw ha.2).mono (by decide)
  have ub : Sz 3999 (U w b.b) := (U_sz hw hb.2).mono (by decide)
  have m1 : ∀ {q : Rat}, Sz 128 q → Sz 3999 q := fun h => h.mono (by decide)
  have m2 : ∀ {q : Rat}, Sz 128 q → Sz 1900 q := fun h => h.mono (by decide)
  have m3 : ∀ {q : Rat}, Sz 128 q → Sz 900 q := fun h => h.mono (by decide)
  by_cases a0 : a.b = 0
  · refine q_whenT (et_is (t_B (u_plain iw v0)) (decide_eq_true a0)) fun H2 e2 => s_retP (e_rn (u_times (m1 ha.1) (m1 hb.1) (e_part (v0.mono e2)) (e_part (v1.mono e2))) (u_grown ub (m2 ha.1) (e_und (v1.mono e2)) (e_part (v0.mono e2))) ?_ ?_) fun v H3 e3 hv => k v H3 (e2.trans e3) hv
    · show a.a * b.a = a.a * b.a + a.b * b.b * w
      rw [a0]
      grind
    · show U w (a.a * b.b) = U w (a.a * b.b + b.a * a.b)
      rw [a0]
      exact congrArg (U w) (by grind)
  refine q_whenF (et_is (t_B (u_plain iw v0)) (decide_eq_false a0)) fun H2 e2 => ?_
  have v0 := v0.mono e2
  have v1 := v1.mono e2
  by_cases b0 : b.b = 0
  · refine q_whenT (et_is (t_B (u_plain iw v1)) (decide_eq_true b0)) fun H3 e3 => s_retP (e_rn (u_times (m1 ha.1) (m1 hb.1) (e_part (v0.mono e3)) (e_part (v1.mono e3))) (u_grown ua (m2 hb.1) (e_und (v0.mono e3)) (e_part (v1.mono e3))) ?_ ?_) fun v H4 e4 hv => k v H4 ((e2.trans e3).trans e4) hv
    · show a.a * b.a = a.a * b.a + a.b * b.b * w
      rw [b0]
      grind
    · show U w (b.a * a.b) = U w (a.a * b.b + b.a * a.b)
      rw [b0]
      exact congrArg (U w) (by grind)
  refine q_whenF (et_is (t_B (u_plain iw v1)) (decide_eq_false b0)) fun H3 e3 => ?_
  have v0 := v0.mono e3
  have v1 := v1.mono e3
  have zs := hb.2.div ha.2
  refine q_asgP (u_share iw hw (m3 ha.2) (m3 hb.2) a0 (e_und v0) (e_und v1)) fun v H4 e4 hv => ?_
  have e04 := (e2.trans e3).trans e4
  have v0 : EvP (tVar 0) [some x, some y, some v, none] H4 (.rn K w a) := e_var rfl ((Ty.rn K _ _).ex e04 hx)
  have v1 : EvP (tVar 1) [some x, some y, some v, none] H4 (.rn K w b) := e_var rfl ((Ty.rn K _ _).ex e04 hy)
  have v2 : EvP (tVar 2) [some x, some y, some v, none] H4 (.fr K (b.b / a.b)) := e_var rfl hv
  have zu : Sz 263 (U w a.b).abs := ((U_sz hw ha.2).mono (by decide)).abs
  refine q_asgP (u_plus ((ha.1.mul hb.1).mono (by decide)) ((zs.mul zu).mono (by decide)) (u_times (m1 ha.1) (m1 hb.1) (e_part v0) (e_part v1)) (u_times (zs.mono (by decide)) (zu.mono (by decide)) v2 (u_size (e_und v0)))) fun v5 H5 e5 hv5 => ?_
  have e05 := e04.trans e5
  have v0 : EvP (tVar 0) [some x, some y, some v, some v5] H5 (.rn K w a) := e_var rfl ((Ty.rn K _ _).ex e05 hx)
  have v1 : EvP (tVar 1) [some x, some y, some v, some v5] H5 (.rn K w b) := e_var rfl ((Ty.rn K _ _).ex e05 hy)
  have v2 : EvP (tVar 2) [some x, some y, some v, some v5] H5 (.fr K (b.b / a.b)) := e_var rfl ((Ty.fr K _).ex e5 hv)
  have v3 : EvP (tVar 3) [some x, some y, some v, some v5] H5 (.fr K (a.a * b.a + b.b / a.b * (U w a.b).abs)) := e_var rfl hv5
  refine s_retP (e_rn v3 (u_grown ua (((ha.1.mul zs).add hb.1).mono (by decide)) (e_und v0) (u_plus ((ha.1.mul zs).mono (by decide)) (m1 hb.1) (u_times (m1 ha.1) (zs.mono (by decide)) (e_part v0) v2) (e_part v1))) ?_ ?_) fun v H6 e6 hv => k v H6 (e05.trans e6) hv
  · show a.a * b.a + b.b / a.b * (U w a.b).abs = a.a * b.a + a.b * b.b * w
    rw [U_abs iw]
    grind
  · show U w ((a.a * (b.b / a.b) + b.a) * a.b) = U w (a.a * b.b + b.a * a.b)
    exact congrArg (U w) (by grind)
theorem sc_root_over : FnScope ["one", "other", "norm"] ["one", "other"] (defScope (top 34)) := ⟨rfl, rfl, rfl, by decide +kernel, rfl, by decide +kernel, by decide +kernel⟩
theorem ok_root_over {f : Addr} {fd : FuncData} (T : Txt K mg z o n) {f_O : Addr} {fd_O : FuncData} (O : Ok P wd K mg base 4 "minus" ["one", "other"] (spMinus K) f_O fd_O) {f_O2 : Addr} {fd_O2 : FuncData} (O2 : Ok P wd K mg base 3 "times" ["one", "other"] (spTimes K) f_O2 fd_O2) {f_O3 : Addr} {fd_O3 : FuncData} (O3 : Ok P wd K mg base 1 "size_of" ["one"] (spSize K) f_O3 fd_O3) {f_O4 : Addr} {fd_O4 : FuncData} (O4 : Ok P wd K mg base 5 "root_times" ["one", "other"] (spRTimes K) f_O4 fd_O4) {f_O5 : Addr} {fd_O5 : FuncData} (O5 : Ok P wd K mg base 3 "over" ["one", "other"] (spOver K) f_O5 fd_O5) {f_O6 : Addr} {fd_O6 : FuncData} (O6 : Ok P wd K mg base 4 "under_grown" ["under", "by"] (spGrown K) f_O6 fd_O6) {f_O7 : Addr} {fd_O7 : FuncData} (O7 : Ok P wd K mg base 1 "negated" ["one"] (spNeg K) f_O7 fd_O7) (F : At K mg "root_over" 34 f fd) : Ok P wd K mg base 6 "root_over" ["one", "other"] (spROver K) f fd := by
  refine ⟨F.g, F.F.kp, F.F.bindsN fun _ _ _ _ _ _ us hl => match us, hl with | [_, _], _ => rfl, F.F.ok sc_root_over len2 fun cdv A outer s H vs Q E hr h => ?_⟩
  obtain ⟨g, x, y, hok, rfl, hx, hy, k⟩ := h
  obtain ⟨w, a, b⟩ := g
  obtain ⟨⟨iw, hw, ha, hb⟩, b0⟩ := hok
  have ha : ESz 20 a := ha
  have hb : ESz 20 b := hb
  have hw : Sz 7 w := hw
  have b0 : ¬ (b.a = 0 ∧ b.b = 0) := b0
  refine ⟨_, PSs.nox (pss_cons (ps_if (qEqD hr.units (pv 1) (pGlob T.nought)) pss_never pss_nil)
    (pss_cons (ps_set (i := 2) sc_root_over.nd rfl (.inl rfl) (pCall2 O hr (pCall2 O2 hr (pIx0 (pv 1)) (pIx0 (pv 1))) (pCall1 O3 hr (pIx1 (pv 1)))))
    (pss_one (ps_ret (pCall2 O4 hr (pv 0) (pT2 (pCall2 O5 hr (pIx0 (pv 1)) (pv 2)) (pCall2 O6 hr (pCall1 O7 hr (pIx1 (pv 1))) (pCall2 O5 hr (pGlob T.one) (pv 2))))))))), ?_⟩
  have v1 : EvP (tVar 1) (L2.start ["one", "other", "norm"] [x, y]) H (.rn K w b) := e_var rfl hy
  have tn : ∀ H, (Ty.rn K w El.zero).is (.ref n) H := fun H => by
    have h : (Ty.t2 K (.fr K 0) (.fr K 0)).is (.ref n) H := ⟨n, .ref z, .ref z, rfl, T.tn H, T.tz H, T.tz H⟩
    show (Ty.t2 K (.fr K 0) (.fr K (U w 0))).is (.ref n) H
    rw [U_zero]
    exact h
  refine q_whenF (et_is (t_test (e_eqD dt_rn dt_rn (sh_rn _ _) (sh_rn _ _) v1 (e_g (tn H)))) ?_) fun H1 e1 => ?_
  · rw [eqv_rn]
    by_cases hba : b.a = 0
    · have hbb : ¬ U w b.b = U w 0 := fun q => b0 ⟨hba, by rw [U_zero] at q; exact (U_eq_zero iw).mp q⟩
      rw [decide_eq_false (p := U w b.b = U w El.zero.b) hbb]
      exact Bool.and_false _
    · rw [decide_eq_false (p := b.a = El.zero.a) hba]
      rfl
  have v1 := v1.mono e1
  have zu : Sz 47 (U w b.b).abs := ((U_sz hw hb.2).mono (by decide)).abs
  have zn : Sz 88 (b.nrm w) := (hb.nrm hw).mono (by decide)
  have n0 := nrm_ne iw b0
  refine q_asgP (u_minus ((hb.1.mul hb.1).mono (by decide)) (zu.mono (by decide)) (u_times (hb.1.mono (by decide)) (hb.1.mono (by decide)) (e_part v1) (e_part v1)) (u_size (e_und v1))) fun v H2 e2 hv => ?_
  have e02 := e1.trans e2
  have v0 : EvP (tVar 0) [some x, some y, some v] H2 (.rn K w a) := e_var rfl ((Ty.rn K _ _).ex e02 hx)
  have v1 : EvP (tVar 1) [some x, some y, some v] H2 (.rn K w b) := e_var rfl ((Ty.rn K _ _).ex e02 hy)
  have v2 : EvP (tVar 2) [some x, some y, some v] H2 (.fr K (b.nrm w)) := e_var rfl (by rw [U_abs iw] at hv; exact hv)
  have zi : ESz 109 (b.inv w) := (hb.inv hw).mono (by decide)
  refine s_retP (u_rtimes (y := b.inv w) iw hw (ha.mono (by decide)) (zi.mono (by decide)) v0 (e_rn (u_over (hb.1.mono (by decide)) (zn.mono (by decide)) n0 (e_part v1) v2)
    (u_grown (b := -b.b) (c := 1 / b.nrm w) ((U_sz hw hb.2.neg).mono (by decide)) ((Sz.one.div zn).mono (by decide)) ((u_neg (e_und v1)).cast (congrArg (Ty.fr K) (U_neg b.b).symm)) (u_over (Sz.one.mono (by decide)) (zn.mono (by decide)) n0 (e_g (T.to H2)) v2)) rfl ?_)) fun v H3 e3 hv => k v H3 (e02.trans e3) hv
  show U w (1 / b.nrm w * -b.b) = U w (-b.b * (1 / b.nrm w))
  rw [Rat.mul_comm]
theorem sc_root_sign : FnScope ["one", "first", "second"] ["one"] (defScope (top 35)) := ⟨rfl, rfl, rfl, by decide +kernel, rfl, by decide +kernel, by decide +kernel⟩
theorem ok_root_sign {f : Addr} {fd : FuncData} (T : Txt K mg z o n) {f_O : Addr} {fd_O : FuncData} (O : Ok P wd K mg base 1 "sign_of" ["one"] (spSign K) f_O fd_O) {f_O2 : Addr} {fd_O2 : FuncData} (O2 : Ok P wd K mg base 4 "minus" ["one", "other"] (spMinus K) f_O2 fd_O2) {f_O3 : Addr} {fd_O3 : FuncData} (O3 : Ok P wd K mg base 3 "times" ["one", "other"] (spTimes K) f_O3 fd_O3) {f_O4 : Addr} {fd_O4 : FuncData} (O4 : Ok P wd K mg base 1 "size_of" ["one"] (spSize K) f_O4 fd_O4) (F : At K mg "root_sign" 35 f fd) : Ok P wd K mg base 5 "root_sign" ["one"] (spRSign K) f fd := by
  refine ⟨F.g, F.F.kp, F.F.bindsN fun _ _ _ _ _ _ us hl => match us, hl with | [_], _ => rfl, F.F.ok sc_root_sign len1 fun cdv A outer s H vs Q E hr h => ?_⟩
  obtain ⟨g, x, hok, rfl, hx, k⟩ := h
  obtain ⟨w, a⟩ := g
  obtain ⟨iw, hw, ha⟩ := hok
  have ha : ESz 300 a := ha
  have hw : Sz 7 w := hw
  refine ⟨_, PSs.nox (pss_cons (ps_par (i := 1) (j := 2) rfl sc_root_sign.nd rfl rfl (by decide) rfl rfl (pa_cons (pCall1 O hr (pIx0 (pv 0))) (pa_cons (pCall1 O hr (pIx1 (pv 0))) pa_nil)) (by rfl))
    (pss_cons (ps_if (PW.pt (pw_or (qEq (pv 1) (pv 2)) (pw_or1 (qEq (pv 2) pe_int)))) (pss_one (ps_ret (pv 1))) pss_nil)
    (pss_cons (ps_if (PW.pt (pw_or (qEq (pv 1) pe_int) (pw_or1 (qLt (pCall1 O hr (pCall2 O2 hr (pCall2 O3 hr (pIx0 (pv 0)) (pIx0 (pv 0))) (pCall1 O4 hr (pIx1 (pv 0))))) pe_int)))) (pss_one (ps_ret (pv 2))) pss_nil)
    (pss_one (ps_ret (pv 1)))))), ?_⟩
  have v0 : EvP (tVar 0) (L2.start ["one", "first", "second"] [x]) H (.rn K w a) := e_var rfl hx
  refine q_parP (u_sign (e_part v0)) (u_sign (e_und v0)) fun v1 v2 H1 e1 h1 h2 => ?_
  rw [U_sg iw] at h2
  cases h1
  cases h2
  have v0 : EvP (tVar 0) [some x, some (.int (sg a.a)), some (.int (sg a.b))] H1 (.rn K w a) := e_var rfl ((Ty.rn K _ _).ex e1 hx)
  have v1 : EvP (tVar 1) [some x, some (.int (sg a.a)), some (.int (sg a.b))] H1 (.c (.int (sg a.a))) := e_var rfl rfl
  have v2 : EvP (tVar 2) [some x, some (.int (sg a.a)), some (.int (sg a.b))] H1 (.c (.int (sg a.b))) := e_var rfl rfl
  have test := et_or (t_test (e_eq (x := .int (sg a.a)) (y := .int (sg a.b)) rfl v1 v2)) fun _ => t_test (e_eq (x := .int (sg a.b)) (y := .int 0) rfl v2 e_c)
  unfold El.sgn at k
  by_cases c1 : sg a.a = sg a.b ∨ sg a.b = 0
  · refine q_whenT (et_is test ?_) fun H2 e2 => s_retP (v1.mono e2) fun v H3 e3 hv => k v H3 ((e1.trans e2).trans e3) (by
      show v = V.int (if sg a.a = sg a.b ∨ sg a.b = 0 then sg a.a else _)
      rw [if_pos c1]
      exact hv)
    rcases c1 with c | c
    · rw [c, decide_eq_true rfl]
      rfl
    · rw [c, decide_eq_true (p := V.int 0 = V.int 0) rfl]
      exact Bool.or_true _
  refine q_whenF (et_is test ?_) fun H2 e2 => ?_
  · rw [decide_eq_false (p := V.int (sg a.a) = V.int (sg a.b)) fun q => c1 (.inl (V.int.inj q)), decide_eq_false (p := V.int (sg a.b) = V.int 0) fun q => c1 (.inr (V.int.inj q))]
    rfl
  have v0 := v0.mono e2
  have v1 := v1.mono e2
  have v2 := v2.mono e2
  have zu : Sz 607 (U w a.b).abs := ((U_sz hw ha.2).mono (by decide)).abs
  have vn := u_minus ((ha.1.mul ha.1).mono (by decide)) (zu.mono (by decide)) (u_times (ha.1.mono (by decide)) (ha.1.mono (by decide)) (e_part v0) (e_part v0)) (u_size (e_und v0))
  rw [U_abs iw] at vn
  have vn : EvP _ _ H2 (.fr K (a.nrm w)) := vn
  have test := et_or (t_test (e_eq (x := .int (sg a.a)) (y := .int 0) rfl v1 e_c)) fun _ => t_test (e_I0 (g := fun i j => V.bl (decide (i < j))) (i := sg (a.nrm w)) (j := 0) (u_sign vn) e_c)
  have sneg : sg (a.nrm w) < 0 ↔ a.nrm w < 0 := by
    rcases sg_cases (a.nrm w) with ⟨h, e⟩ | ⟨h, e⟩ | ⟨h, e⟩ <;> rw [e] <;> constructor <;> intro q <;> first | exact h | grind
  by_cases c2 : sg a.a = 0 ∨ a.nrm w < 0
  · refine q_whenT (et_is test ?_) fun H3 e3 => s_retP (v2.mono e3) fun v H4 e4 hv => k v H4 (((e1.trans e2).trans e3).trans e4) (by
      show v = V.int (if sg a.a = sg a.b ∨ sg a.b = 0 then sg a.a else if sg a.a = 0 ∨ a.nrm w < 0 then sg a.b else sg a.a)
      rw [if_neg c1, if_pos c2]
      exact hv)
    rcases c2 with c | c
    · rw [c, decide_eq_true (p := V.int 0 = V.int 0) rfl]
      rfl
    · rw [decide_eq_true (sneg.mpr c)]
      exact Bool.or_true _
  refine q_whenF (et_is test ?_) fun H3 e3 => s_retP (v1.mono e3) fun v H4 e4 hv => k v H4 (((e1.trans e2).trans e3).trans e4) (by
      show v = V.int (if sg a.a = sg a.b ∨ sg a.b = 0 then sg a.a else if sg a.a = 0 ∨ a.nrm w < 0 then sg a.b else sg a.a)
      rw [if_neg c1, if_neg c2]
      exact hv)
  rw [decide_eq_false (p := V.int (sg a.a) = V.int 0) fun q => c2 (.inl (V.int.inj q)), decide_eq_false fun q => c2 (.inr (sneg.mp q))]
  rfl
theorem sc_root_less : FnScope ["one", "other"] ["one", "other"] (defScope (top 36)) := ⟨rfl, rfl, rfl, by decide +kernel, rfl, by decide +kernel, by decide +kernel⟩
theorem ok_root_less {f : Addr} {fd : FuncData} {f_O : Addr} {fd_O : FuncData} (O : Ok P wd K mg base 5 "root_sign" ["one"] (spRSign K) f_O fd_O) {f_O2 : Addr} {fd_O2 : FuncData} (O2 : Ok P wd K mg base 6 "root_minus" ["one", "other"] (spRMinus K) f_O2 fd_O2) (F : At K mg "root_less" 36 f fd) : Ok P wd K mg base 7 "root_less" ["one", "other"] (spRLess K) f fd := by
  refine ⟨F.g, F.F.kp, F.F.bindsN fun _ _ _ _ _ _ us hl => match us, hl with | [_, _], _ => rfl, F.F.ok sc_root_less len2 fun cdv A outer s H vs Q E hr h => ?_⟩
  obtain ⟨g, x, y, hok, rfl, hx, hy, k⟩ := h
  obtain ⟨w, a, b⟩ := g
  obtain ⟨iw, hw, ha, hb⟩ := hok
  have ha : ESz 128 a := ha
  have hb : ESz 128 b := hb
  refine ⟨_, PSs.nox (pss_one (ps_ret (vLt (pCall1 O hr (pCall2 O2 hr (pv 0) (pv 1))) pe_int))), ?_⟩
  exact s_retP (e_I0 (i := (a.sub b).sgn w) (j := 0) (u_rsign iw hw ((ha.sub hb).mono (by decide)) (u_rminus iw hw ha hb (e_var rfl hx) (e_var rfl hy))) e_c) k
end
end K16

set_option maxHeartbeats 4000000
set_option exponentiation.threshold 10000
/-! ### the law's own draws -/
namespace K16
open PySem PySem.Spec PyProof.Rows L2 Evl

/-! the state: a list at l of an int and a bool -/
def ExB (l : Addr) (H H' : Hp) : Prop := ∀ b o, b ≠ l → H b = some o → H' b = some o
def Sta (l : Addr) (H : Hp) : Prop := ∃ a f, H l = some (HO.lst [.int a, .bl f])
theorem ExB.refl (l : Addr) (H : Hp) : ExB l H H := fun _ _ _ h => h
theorem ExB.trans {l : Addr} {H H1 H2 : Hp} (a : ExB l H H1) (b : ExB l H1 H2) : ExB l H H2 := fun x o n h => b x o n (a x o n h)
theorem ExB.of {l : Addr} {H H' : Hp} (e : Ex H H') : ExB l H H' := fun a o _ h => e a o h
theorem ExB.toT {l : Addr} {H H' : Hp} (e : ExB l H H') (s : Sta l H) : ExT H H' := fun a o n h => by
  obtain ⟨i, f, hl⟩ := s
  exact e a o (fun q => by rw [q, hl] at h; exact n _ (Option.some.inj h).symm) h
/-- what stood ahead of the state's making stays -/
theorem ExB.ex {l : Addr} {H0 H H' : Hp} (e : ExB l H H') (h0 : H0 l = none) (x : Ex H0 H) : Ex H0 H' := fun a o h => e a o (ne_of_none h h0) (x a o h)
theorem Sta.ex {l : Addr} {H H' : Hp} (e : Ex H H') (s : Sta l H) : Sta l H' := by
  obtain ⟨i, f, h⟩ := s
  exact ⟨i, f, e l _ h⟩
theorem ExB.upd {l : Addr} {H H' : Hp} {o : HO} (e : ExB l H H') : ExB l H (upd H' l o) := fun a u n h => by
  rw [upd_ne n]
  exact e a u n h
/-- te gives something of the kind T, changing at most the state at l -/
def EvS (l : Addr) (te : TE) (σ : L2.St) (H : Hp) (T : Ty) : Prop := ∀ H1, ExB l H H1 → Sta l H1 → ∀ Q : VK, (∀ v H2, ExB l H1 H2 → Sta l H2 → T.is v H2 → Q v H2) → te σ H1 Q
def Ty.lt (m : Int) : Ty := ⟨fun v _ => ∃ i, v = .int i ∧ 0 ≤ i ∧ i < m, fun _ _ _ _ h => h⟩
def Ty.frZ (K : PySem.W.Frag) (m : Nat) : Ty := ⟨fun v H => ∃ q, Sz m q ∧ (Ty.fr K q).is v H, fun v _ _ e ⟨q, s, h⟩ => ⟨q, s, (Ty.fr K q).st _ _ _ e h⟩⟩
def Ty.prZ (K : PySem.W.Frag) (m : Nat) : Ty := ⟨fun v H => ∃ a b, Sz m a ∧ Sz m b ∧ (Ty.t2 K (.fr K a) (.fr K b)).is v H, fun v _ _ e ⟨a, b, s, t, h⟩ => ⟨a, b, s, t, (Ty.t2 K _ _).st _ _ _ e h⟩⟩
def Ty.opn : Ty := ⟨fun v _ => ∃ u : Int, v = .int u ∧ Irr (u : Rat) ∧ Sz 7 (u : Rat) ∧ u.natAbs < 2 ^ 7, fun _ _ _ _ h => h⟩
def Ty.z (p : Int → Prop) : Ty := ⟨fun v _ => ∃ i, v = .int i ∧ p i, fun _ _ _ _ h => h⟩
section
variable {K : PySem.W.Frag} {l : Addr} {σ : L2.St} {H H' : Hp} {ta tb te : TE} {A B T : Ty} {v x y : V} {r : R2}
theorem EvS.mono (e : ExB l H H') (h : EvS l te σ H T) : EvS l te σ H' T := fun H1 a s Q q => h H1 (e.trans a) s Q q
theorem s_var {i : Nat} (h : σ[i]? = some (some v)) (s : Sta l H) (hv : T.is v H) : EvS l (tVar i) σ H T := fun H1 e s1 _ q => ⟨v, h, q v H1 (ExB.refl l H1) s1 (T.st _ _ _ (e.toT s) hv)⟩
theorem s_c : EvS l (tC x) σ H (.c x) := fun H1 _ s _ q => q x H1 (ExB.refl l H1) s rfl
theorem s_imp (h : EvS l te σ H A) (i : ∀ v H, A.is v H → B.is v H) : EvS l te σ H B := fun H1 e s Q q => h H1 e s Q fun v H2 e2 s2 t => q v H2 e2 s2 (i v H2 t)
theorem s_op (ha : EvS l ta σ H A) (hb : EvS l tb σ H B) (hr : ∀ x y H1, A.is x H1 → B.is y H1 → ∀ Q : VK, (∀ v, T.is v H1 → Q v H1) → r x y H1 Q) : EvS l (tOp r ta tb) σ H T := fun H1 e s Q q =>
  ha H1 e s _ fun x H2 e2 s2 hx => hb H2 (e.trans e2) s2 _ fun y H3 e3 s3 hy => hr x y H3 (A.st _ _ _ (e3.toT s2) hx) hy Q fun v ht => q v H3 (e2.trans e3) s3 ht
theorem s_t2 (ha : EvS l ta σ H A) (hb : EvS l tb σ H B) : EvS l (tTup (tCons ta (tCons tb tNil))) σ H (.t2 K A B) := fun H1 e s Q q =>
  ha H1 e s _ fun x H2 e2 s2 hx => hb H2 (e.trans e2) s2 _ fun y H3 e3 s3 hy => ⟨sz_of (by show 2 ≤ 100000; decide), fun p hp => by
    have e4 := Ex.new (o := HO.tup [x, y]) hp
    exact q (.ref p) _ ((e2.trans e3).trans (.of e4)) (s3.ex e4) ⟨p, x, y, rfl, st_of upd_same, A.st _ _ _ ((ExT.of e4)) (A.st _ _ _ (e3.toT s2) hx), B.ex e4 hy⟩⟩
theorem q_setS {tz : TS} {D : Ends} {a v : Int} {f : Bool} (h : ∀ Q : VK, Q (.int v) H → te σ H Q) (h0 : σ[0]? = some (some (.ref l))) (hl : H l = some (.lst [.int a, .bl f])) (k : ∀ H1, ExB l H H1 → H1 l = some (.lst [.int v, .bl f]) → tz D σ H1) :
    tSeq (tAsg te (gSub (tVar 0) (tC (.int 0)) rSetL)) tz D σ H :=
  h _ ⟨.ref l, h0, l, _, 0, 0, rfl, rfl, hl, rfl, k _ (ExB.upd (ExB.refl l H)) upd_same⟩
theorem q_ifR {D : Ends} {t : TT} {tu tz : TS} (h : t σ H fun b H1 => if b = true then tu { D with nx := tz D } σ H1 else tz D σ H1) : tSeq (tIfS t tu tNext) tz D σ H := h
/-- a def that draws -/
def spS (T : Ty) : Sp := fun vs H Q _ => ∃ l, vs = [.ref l] ∧ Sta l H ∧ ∀ v H', ExB l H H' → Sta l H' → T.is v H' → Q v H'
theorem s_call {i : Nat} (h : σ[i]? = some (some (.ref l))) : EvS l (tCall (spS T) [] E0 (tCons (tVar i) tNil)) σ H T := fun H1 e s Q q => ⟨.ref l, h, l, rfl, s, fun v H2 e2 s2 ht => q v H2 e2 s2 ht⟩
def spTake : Sp := fun vs H Q _ => ∃ l m, vs = [.ref l, .int m] ∧ 0 < m ∧ m < 1073741824 ∧ Sta l H ∧ ∀ v H', ExB l H H' → Sta l H' → (Ty.lt m).is v H' → Q v H'
theorem s_take {i : Nat} {m : Int} (h : σ[i]? = some (some (.ref l))) (h0 : 0 < m) (h1 : m < 1073741824) : EvS l (tCall spTake [] E0 (tCons (tVar i) (tCons (tC (.int m)) tNil))) σ H (.lt m) := fun H1 e s Q q => ⟨.ref l, h, l, m, rfl, h0, h1, s, fun v H2 e2 s2 ht => q v H2 e2 s2 ht⟩
/-- a def that changes nothing, called on what was drawn -/
theorem s_call2 {G : Type} {ok : G → Prop} {A' B' R : G → Ty} (ha : EvS l ta σ H A) (hb : EvS l tb σ H B) (hg : ∀ x y H1, A.is x H1 → B.is y H1 → ∃ g, ok g ∧ (A' g).is x H1 ∧ (B' g).is y H1 ∧ ∀ v H2, (R g).is v H2 → T.is v H2) :
    EvS l (tCall (sp2 ok A' B' R) [] E0 (tCons ta (tCons tb tNil))) σ H T := fun H1 e s Q q =>
  ha H1 e s _ fun x H2 e2 s2 hx => hb H2 (e.trans e2) s2 _ fun y H3 e3 s3 hy => by
    obtain ⟨g, hok, h1, h2, hr⟩ := hg x y H3 (A.st _ _ _ (e3.toT s2) hx) hy
    exact ⟨g, x, y, hok, rfl, h1, h2, fun v H4 e4 hv => q v H4 ((e2.trans e3).trans (.of e4)) (s3.ex e4) (hr v H4 hv)⟩
/-- an item of a list made on the spot, at a drawn place -/
theorem s_menu {ta : TA} {m : Int} (ha : ∀ H1, ExB l H H1 → Sta l H1 → ∀ Q : List V → Hp → Prop, (∀ ys H2, ExB l H1 H2 → Sta l H2 → (ys.length ≤ 100 ∧ ∀ i : Int, 0 ≤ i → i < m → ∃ v, atI ys i = some v ∧ ∀ H', T.is v H') → Q ys H2) → ta σ H1 Q)
    (hb : EvS l tb σ H (.lt m)) : EvS l (tOp (rIxL K) (tLst ta) tb) σ H T := fun H1 e s Q q =>
  ha H1 e s _ fun ys H2 e2 s2 ⟨hl, hy⟩ => ⟨sz_of (by omega), fun p hp => by
    have e3 := Ex.new (o := HO.lst ys) hp
    have s3 := s2.ex e3
    have npl : p ≠ l := fun q => by
      obtain ⟨_, _, h⟩ := s2
      rw [q, h] at hp
      cases hp
    refine hb _ ((e.trans e2).trans (.of e3)) s3 _ fun v H4 e4 s4 ⟨i, hv, i0, i1⟩ => ?_
    subst hv
    obtain ⟨v, hv, ht⟩ := hy i i0 i1
    exact ⟨p, ys, i, v, rfl, rfl, SqL.of (e4 p _ npl upd_same), hv, q v H4 ((e2.trans (.of e3)).trans e4) s4 (ht H4)⟩⟩
end
section
variable {X : Cx} {e e2 : Expr} {t u : TE} {pos : Pos}
theorem pIxL (h : PE X e t) (g : PE X e2 u) (hs : PlainIx e2 := by intro _ _; rfl) : PE X (.Subscript e e2 pos) (tOp (rIxL X.K) t u) := pe_ix ix_list h g hs
theorem pMulS (h : PE X e t) (g : PE X e2 u) : PE X (.BinOp e .Mult e2 pos) (tOp (rI CMul fun i j => .int (i * j)) t u) := pe_op op_mul h g
theorem pDivS (h : PE X e t) (g : PE X e2 u) : PE X (.BinOp e .FloorDiv e2 pos) (tOp (rI CDiv fun i j => .int (i / j)) t u) := pe_op op_fdiv h g
theorem pPow (h : PE X e t) (g : PE X e2 u) : PE X (.BinOp e .Pow e2 pos) (tOp (rI CPow fun i j => .int (i ^ j.toNat)) t u) := pe_op op_pow h g
end
section
variable {P : Program} {wd : World} {K : PySem.W.Frag} {mg : Str → Option Value} {base : Heap} {z o n : Addr}
/-! #### cells, the state -/
def spCell (K : PySem.W.Frag) : Sp := fun vs H Q _ => ∃ (a : Addr) (ns : List Int) (k : Int), vs = [.ref a, .int k] ∧ SqL K H a (ns.map V.int) ∧ 0 ≤ k ∧ ∀ c H', Ex H H' → Q (.int c) H'
def spState (K : PySem.W.Frag) : Sp := fun vs H Q _ => ∃ (a : Addr) (ns : List Int) (k : Int), vs = [.ref a, .int k] ∧ SqL K H a (ns.map V.int) ∧ 0 ≤ k ∧ ∀ l H', H l = none → Ex H H' → Sta l H' → Q (.ref l) H'
theorem sc_law_cell_at : FnScope ["script", "k"] ["script", "k"] (defScope (top 38)) := ⟨rfl, rfl, rfl, by decide +kernel, rfl, by decide +kernel, by decide +kernel⟩
theorem ok_law_cell_at {f : Addr} {fd : FuncData} (T : Txt K mg z o n) (F : At K mg "_law_cell_at" 38 f fd) : Ok P wd K mg base 1 "_law_cell_at" ["script", "k"] (spCell K) f fd := by
  refine ⟨F.g, F.F.kp, F.F.bindsN fun _ _ _ _ _ _ us hl => match us, hl with | [_, _], _ => rfl, F.F.ok sc_law_cell_at (fun vs H Q E h => ?_) fun cdv A outer s H vs Q E hr h => ?_⟩
  · obtain ⟨a, ns, i, rfl, hS, h0, k⟩ := h
    rfl
  obtain ⟨a, ns, i, rfl, hS, h0, k⟩ := h
  refine ⟨_, PSs.nox (pss_cons (ps_if (qLt (pv 1) (pLen T.len (pv 0))) (pss_one (ps_ret (pIxL (pv 0) (pv 1)))) pss_nil) (pss_one (ps_ret pe_int))), ?_⟩
  refine ⟨.int i, rfl, .ref a, rfl, a, _, rfl, .inl hS, i, _, rfl, rfl, _, rfl, ?_⟩
  refine ite2 (fun hlt => ?_) (fun _ => k 0 H (Ex.refl H))
  have hlt : i < ((ns.map V.int).length : Int) := of_decide_eq_true hlt
  rw [List.length_map] at hlt
  obtain ⟨j, rfl⟩ := Int.eq_ofNat_of_zero_le h0
  have hj : j < ns.length := by omega
  refine ⟨.ref a, rfl, .int j, rfl, a, _, j, .int ns[j], rfl, rfl, hS, atI_nat (by rw [List.getElem?_map, List.getElem?_eq_getElem hj]; rfl), k _ H (Ex.refl H)⟩
theorem sc_law_state : FnScope ["script", "k", "cell"] ["script", "k"] (defScope (top 39)) := ⟨rfl, rfl, rfl, by decide +kernel, rfl, by decide +kernel, by decide +kernel⟩
theorem ok_law_state {f : Addr} {fd : FuncData} {f_O : Addr} {fd_O : FuncData} (O : Ok P wd K mg base 1 "_law_cell_at" ["script", "k"] (spCell K) f_O fd_O) (F : At K mg "_law_state" 39 f fd) : Ok P wd K mg base 2 "_law_state" ["script", "k"] (spState K) f fd := by
  refine ⟨F.g, F.F.kp, F.F.bindsN fun _ _ _ _ _ _ us hl => match us, hl with | [_, _], _ => rfl, F.F.ok sc_law_state (fun vs H Q E h => ?_) fun cdv A outer s H vs Q E hr h => ?_⟩
  · obtain ⟨a, ns, i, rfl, hS, h0, k⟩ := h
    rfl
  obtain ⟨a, ns, i, rfl, hS, h0, k⟩ := h
  refine ⟨_, PSs.nox (pss_cons (ps_set (i := 2) sc_law_state.nd rfl (.inl rfl) (pCall2 O hr (pv 0) (pv 1))) (pss_cons (ps_if (pt_cmpR op_ge (pv 2) (pPow pe_int pe_int) (nomark _)) (pss_one (ps_ret (pe_lst (pa_cons (pSub (pv 2) (pPow pe_int pe_int)) (pa_cons pe_bl pa_nil))))) pss_nil)
    (pss_one (ps_ret (pe_lst (pa_cons (pMod (pv 2) pe_int) (pa_cons pe_bl pa_nil))))))), ?_⟩
  refine ⟨.ref a, rfl, .int i, rfl, a, ns, i, rfl, hS, h0, fun c H1 e1 => ?_⟩
  have pw : CPow 10 18 := ⟨by decide, by decide, by decide⟩
  refine ⟨.int c, rfl, 10, 18, rfl, rfl, pw, c, _, rfl, rfl, _, rfl, ?_⟩
  refine ite2 (fun _ => ?_) (fun _ => ?_)
  · refine ⟨.int c, rfl, 10, 18, rfl, rfl, pw, c, _, rfl, rfl, sz_of (by show 2 ≤ 100000; decide), fun l hl => ?_⟩
    exact k l _ (fresh_back e1 hl) (e1.trans (Ex.new hl)) ⟨_, _, upd_same⟩
  · refine ⟨.int c, rfl, c, 2147483647, rfl, rfl, (by show (0 : Int) < 2147483647; decide), sz_of (by show 2 ≤ 100000; decide), fun l hl => ?_⟩
    exact k l _ (fresh_back e1 hl) (e1.trans (Ex.new hl)) ⟨_, _, upd_same⟩
theorem sc_law_take : FnScope ["state", "many", "found", "mixed"] ["state", "many"] (defScope (top 40)) := ⟨rfl, rfl, rfl, by decide +kernel, rfl, by decide +kernel, by decide +kernel⟩
theorem ok_law_take {f : Addr} {fd : FuncData} (F : At K mg "_law_take" 40 f fd) : Ok P wd K mg base 1 "_law_take" ["state", "many"] spTake f fd := by
  refine ⟨F.g, F.F.kp, F.F.bindsN fun _ _ _ _ _ _ us hl => match us, hl with | [_, _], _ => rfl, F.F.ok sc_law_take (fun vs H Q E h => ?_) fun cdv A outer s H vs Q E hr h => ?_⟩
  · obtain ⟨l, m, rfl, h0, h1, ⟨a, f', hl⟩, k⟩ := h
    rfl
  obtain ⟨l, m, rfl, h0, h1, ⟨a, f', hl⟩, k⟩ := h
  refine ⟨_, PSs.nox (pss_cons (ps_if (pt_val (pIxL (pv 0) pe_int)) (pss_cons (ps_set (i := 2) sc_law_take.nd rfl (.inl rfl) (pMod (pIxL (pv 0) pe_int) (pv 1)))
      (pss_cons (ps_asg (pDivS (pIxL (pv 0) pe_int) (pv 1)) (pg_sub (pv 0) pe_int set_list)) (pss_one (ps_ret (pv 2))))) pss_nil)
    (pss_cons (ps_asg (pMod (pAdd (pMulS (pIxL (pv 0) pe_int) pe_int) pe_int) pe_int) (pg_sub (pv 0) pe_int set_list))
    (pss_cons (ps_set (i := 3) sc_law_take.nd rfl (.inl rfl) (pMod (pAdd (pAdd (pMulS (pIxL (pv 0) pe_int) (pIxL (pv 0) pe_int)) (pMulS pe_int (pIxL (pv 0) pe_int))) pe_int) pe_int))
    (pss_cons (ps_set (i := 3) sc_law_take.nd rfl (.inl rfl) (pMod (pAdd (pMulS (pv 3) (pv 3)) (pMulS pe_int (pv 3))) pe_int))
    (pss_one (ps_ret (pMod (pDivS (pv 3) pe_int) (pv 1)))))))), ?_⟩
  refine q_ifR ⟨.ref l, rfl, l, _, 1, .bl f', rfl, rfl, SqL.of hl, rfl, f', rfl, ?_⟩
  cases f' with
  | true =>
    refine iteT ?_
    refine ⟨.ref l, rfl, l, _, 0, .int a, rfl, rfl, SqL.of hl, rfl, .int m, rfl, a, m, rfl, rfl, h0, ?_⟩
    refine ⟨.ref l, rfl, l, _, 0, .int a, rfl, rfl, SqL.of hl, rfl, .int m, rfl, a, m, rfl, rfl, ⟨h0, h1⟩, .ref l, rfl, l, _, 0, 0, rfl, rfl, hl, rfl, ?_⟩
    exact ⟨_, rfl, k _ _ (ExB.upd (ExB.refl l H)) ⟨_, _, upd_same⟩ ⟨_, rfl, Int.emod_nonneg _ (by omega), Int.emod_lt_of_pos _ h0⟩⟩
  | false =>
    refine iteF ?_
    have c1 : CMul a 48271 := .inr ⟨by decide, by decide⟩
    refine q_setS (l := l) (v := (a * 48271 + 29) % 2147483647) (fun Q q => ⟨.ref l, rfl, l, _, 0, .int a, rfl, rfl, SqL.of hl, rfl, a, 48271, rfl, rfl, c1, _, _, rfl, rfl, _, _, rfl, rfl, (by show (0 : Int) < 2147483647; decide), q⟩) rfl hl fun H1 e1 hl2 => ?_
    have b0 := Int.emod_nonneg (a * 48271 + 29) (show (2147483647 : Int) ≠ 0 by decide)
    have b1 := Int.emod_lt_of_pos (a * 48271 + 29) (show (0 : Int) < 2147483647 by decide)
    generalize (a * 48271 + 29) % 2147483647 = b at b0 b1 hl2
    have cb : CMul b b := .inl ⟨by omega, by omega⟩
    have cc : ∀ j : Int, CMul 39373 j := fun j => .inl ⟨by decide, by decide⟩
    refine ⟨.ref l, rfl, l, _, 0, .int b, rfl, rfl, SqL.of hl2, rfl, .ref l, rfl, l, _, 0, .int b, rfl, rfl, SqL.of hl2, rfl, b, b, rfl, rfl, cb, .ref l, rfl, l, _, 0, .int b, rfl, rfl, SqL.of hl2, rfl, 39373, b, rfl, rfl, cc b, _, _, rfl, rfl, _, _, rfl, rfl, _, _, rfl, rfl, (by show (0 : Int) < 2147483629; decide), ?_⟩
    have d0 := Int.emod_nonneg (b * b + 39373 * b + 7) (show (2147483629 : Int) ≠ 0 by decide)
    have d1 := Int.emod_lt_of_pos (b * b + 39373 * b + 7) (show (0 : Int) < 2147483629 by decide)
    show tSeq _ _ _ [some (.ref l), some (.int m), none, some (.int ((b * b + 39373 * b + 7) % 2147483629))] H1
    generalize (b * b + 39373 * b + 7) % 2147483629 = d at d0 d1
    have cd : CMul d d := .inl ⟨by omega, by omega⟩
    have ce : ∀ j : Int, CMul 16807 j := fun j => .inl ⟨by decide, by decide⟩
    refine ⟨.int d, rfl, .int d, rfl, d, d, rfl, rfl, cd, .int d, rfl, 16807, d, rfl, rfl, ce d, _, _, rfl, rfl, _, _, rfl, rfl, (by show (0 : Int) < 2147483587; decide), ?_⟩
    refine ⟨_, rfl, _, 8, rfl, rfl, ⟨by decide, by decide⟩, .int m, rfl, _, m, rfl, rfl, h0, k _ _ e1 ⟨_, _, hl2⟩ ⟨_, rfl, Int.emod_nonneg _ (by omega), Int.emod_lt_of_pos _ h0⟩⟩
theorem sc_law_small : FnScope ["state"] ["state"] (defScope (top 47)) := ⟨rfl, rfl, rfl, by decide +kernel, rfl, by decide +kernel, by decide +kernel⟩
theorem ok_law_small {f : Addr} {fd : FuncData} {f_O : Addr} {fd_O : FuncData} (O : Ok P wd K mg base 2 "_law_ratio" ["top", "bottom"] (spRatio K) f_O fd_O) {f_O2 : Addr} {fd_O2 : FuncData} (O2 : Ok P wd K mg base 1 "_law_take" ["state", "many"] spTake f_O2 fd_O2) (F : At K mg "_law_small" 47 f fd) : Ok P wd K mg base 3 "_law_small" ["state"] (spS (.frZ K 4)) f fd := by
  refine ⟨F.g, F.F.kp, F.F.bindsN fun _ _ _ _ _ _ us hl => match us, hl with | [_], _ => rfl, F.F.ok sc_law_small (fun vs H Q E h => ?_) fun cdv A outer s H vs Q E hr h => ?_⟩
  · obtain ⟨l, rfl, hst, k⟩ := h
    rfl
  obtain ⟨l, rfl, hst, k⟩ := h
  refine ⟨_, PSs.nox (pss_one (ps_ret (pCall2 O hr (pSub (pCall2 O2 hr (pv 0) pe_int) pe_int) (pAdd pe_int (pIxL (pe_lst (pa_cons pe_int (pa_cons pe_int (pa_cons (pCall2 O2 hr (pv 0) pe_int) pa_nil)))) (pCall2 O2 hr (pv 0) pe_int)))))), ?_⟩
  have top : EvS l (tOp (rI0 fun i j => V.int (i - j)) (tCall spTake [] E0 (tCons (tVar 0) (tCons (tC (.int 19)) tNil))) (tC (.int 9))) (L2.start ["state"] [.ref l]) H (.z fun i => -9 ≤ i ∧ i ≤ 9) :=
    s_op (s_take rfl (by decide) (by decide)) s_c fun x y H1 ⟨i, hi, i0, i1⟩ hy Q q => by
      cases hi
      cases hy
      exact ⟨i, 9, rfl, rfl, q _ ⟨_, rfl, by omega, by omega⟩⟩
  have bot := s_op (T := .z fun i => 1 ≤ i ∧ i ≤ 6) (r := rI0 fun i j => V.int (i + j)) (s_c (l := l) (σ := L2.start ["state"] [.ref l]) (H := H) (x := .int 1)) (s_menu (K := K) (T := .z fun i => 0 ≤ i ∧ i ≤ 5) (m := 3) (tb := tCall spTake [] E0 (tCons (tVar 0) (tCons (tC (.int 3)) tNil)))
    (ta := tCons (tC (.int 0)) (tCons (tC (.int 0)) (tCons (tCall spTake [] E0 (tCons (tVar 0) (tCons (tC (.int 6)) tNil))) tNil))) (fun H1 e1 s1 Q q => s_take (H := H1) rfl (by decide) (by decide) H1 (ExB.refl l H1) s1 _ fun v H2 e2 s2 ⟨i, hv, i0, i1⟩ => q _ H2 e2 s2 (by
      subst hv
      refine ⟨by show 3 ≤ 100; decide, fun j j0 j1 => ?_⟩
      have : j = 0 ∨ j = 1 ∨ j = 2 := by omega
      rcases this with rfl | rfl | rfl
      · exact ⟨.int 0, rfl, fun _ => ⟨0, rfl, by decide, by decide⟩⟩
      · exact ⟨.int 0, rfl, fun _ => ⟨0, rfl, by decide, by decide⟩⟩
      · exact ⟨.int i, rfl, fun _ => ⟨i, rfl, by omega, by omega⟩⟩)) (s_take rfl (by decide) (by decide))) fun x y H1 hx ⟨i, hi, i0, i1⟩ Q q => by
      cases hi
      cases hx
      exact ⟨1, i, rfl, rfl, q _ ⟨_, rfl, by omega, by omega⟩⟩
  refine s_call2 (T := .frZ K 4) top bot (fun x y H1 ⟨i, hi, i0, i1⟩ ⟨j, hj, j0, j1⟩ => ?_) H (ExB.refl l H) hst Q fun v H' e s hv => k v H' e s hv
  subst hi hj
  refine ⟨(i, j), ⟨?_, ?_, ?_⟩, rfl, rfl, fun v H2 hv => ⟨_, ?_, hv⟩⟩
  · show j ≠ 0
    omega
  · exact Nat.lt_of_lt_of_le (show i.natAbs < 2 ^ 4 by omega) (Nat.pow_le_pow_right (by decide) (by decide))
  · exact Nat.lt_of_lt_of_le (show j.natAbs < 2 ^ 4 by omega) (Nat.pow_le_pow_right (by decide) (by decide))
  · exact Sz.divInt (show i.natAbs < 2 ^ 4 by omega) (show j.natAbs < 2 ^ 4 by omega) (by decide)
theorem irr_int {n k : Int} (h : IsRoot n k) (hk : k * k ≠ n) (h0 : 0 < n) : Irr (n : Rat) := by
  refine ⟨Rat.intCast_pos.mpr h0, fun r e => hk ?_⟩
  obtain ⟨a, _⟩ := sq_num r
  rw [e] at a
  have a : n = r.num * r.num := a
  have e1 : k = (r.num.natAbs : Int) := h.eq (by omega) (by rw [a, ← Int.natCast_mul, ← Int.natAbs_mul, Int.natAbs_of_nonneg (by
    rcases Int.le_total 0 r.num with z | z
    · exact Int.mul_nonneg z z
    · exact Int.mul_nonneg_of_nonpos_of_nonpos z z)])
  rw [e1, a, ← Int.natCast_mul, ← Int.natAbs_mul, Int.natAbs_of_nonneg (by
    rcases Int.le_total 0 r.num with z | z
    · exact Int.mul_nonneg z z
    · exact Int.mul_nonneg_of_nonpos_of_nonpos z z)]
theorem opn_of {u k : Int} (h : IsRoot u k) (hk : k * k ≠ u) (h0 : 0 < u) (hz : u.natAbs < 2 ^ 7) (H : Hp) : Ty.opn.is (.int u) H := ⟨u, rfl, irr_int h hk h0, ⟨hz, by show 1 < 2 ^ 7; decide⟩, hz⟩
theorem sc_law_open : FnScope ["state"] ["state"] (defScope (top 48)) := ⟨rfl, rfl, rfl, by decide +kernel, rfl, by decide +kernel, by decide +kernel⟩
theorem ok_law_open {f : Addr} {fd : FuncData} {f_O2 : Addr} {fd_O2 : FuncData} (O2 : Ok P wd K mg base 1 "_law_take" ["state", "many"] spTake f_O2 fd_O2) (F : At K mg "_law_open" 48 f fd) : Ok P wd K mg base 2 "_law_open" ["state"] (spS .opn) f fd := by
  refine ⟨F.g, F.F.kp, F.F.bindsN fun _ _ _ _ _ _ us hl => match us, hl with | [_], _ => rfl, F.F.ok sc_law_open (fun vs H Q E h => ?_) fun cdv A outer s H vs Q E hr h => ?_⟩
  · obtain ⟨l, rfl, hst, k⟩ := h
    rfl
  obtain ⟨l, rfl, hst, k⟩ := h
  refine ⟨_, PSs.nox (pss_one (ps_ret (pIxL (pe_lst (pa_cons pe_int (pa_cons pe_int (pa_cons pe_int (pa_cons pe_int (pa_cons pe_int (pa_cons pe_int (pa_cons pe_int (pa_cons pe_int (pa_cons pe_int (pa_cons pe_int pa_nil))))))))))) (pCall2 O2 hr (pv 0) pe_int)))), ?_⟩
  refine s_menu (K := K) (T := .opn) (m := 10) (H := H) (fun H1 e1 s1 Q q => q [.int 2, .int 3, .int 5, .int 6, .int 7, .int 8, .int 10, .int 12, .int 18, .int 101] H1 (ExB.refl l H1) s1 ⟨by show 10 ≤ 100; decide, fun j j0 j1 => ?_⟩) (s_take rfl (by decide) (by decide)) H (ExB.refl l H) hst Q fun v H' e s hv => k v H' e s hv
  have : j = 0 ∨ j = 1 ∨ j = 2 ∨ j = 3 ∨ j = 4 ∨ j = 5 ∨ j = 6 ∨ j = 7 ∨ j = 8 ∨ j = 9 := by omega
  rcases this with rfl | rfl | rfl | rfl | rfl | rfl | rfl | rfl | rfl | rfl
  · exact ⟨_, rfl, opn_of (k := 1) ⟨by decide, by decide, by decide⟩ (by decide) (by decide) (by decide)⟩
  · exact ⟨_, rfl, opn_of (k := 1) ⟨by decide, by decide, by decide⟩ (by decide) (by decide) (by decide)⟩
  · exact ⟨_, rfl, opn_of (k := 2) ⟨by decide, by decide, by decide⟩ (by decide) (by decide) (by decide)⟩
  · exact ⟨_, rfl, opn_of (k := 2) ⟨by decide, by decide, by decide⟩ (by decide) (by decide) (by decide)⟩
  · exact ⟨_, rfl, opn_of (k := 2) ⟨by decide, by decide, by decide⟩ (by decide) (by decide) (by decide)⟩
  · exact ⟨_, rfl, opn_of (k := 2) ⟨by decide, by decide, by decide⟩ (by decide) (by decide) (by decide)⟩
  · exact ⟨_, rfl, opn_of (k := 3) ⟨by decide, by decide, by decide⟩ (by decide) (by decide) (by decide)⟩
  · exact ⟨_, rfl, opn_of (k := 3) ⟨by decide, by decide, by decide⟩ (by decide) (by decide) (by decide)⟩
  · exact ⟨_, rfl, opn_of (k := 4) ⟨by decide, by decide, by decide⟩ (by decide) (by decide) (by decide)⟩
  · exact ⟨_, rfl, opn_of (k := 10) ⟨by decide, by decide, by decide⟩ (by decide) (by decide) (by decide)⟩
/-! #### numbers as the law makes them -/
structure GT where
  t1 : Int
  b1 : Int
  t2 : Int
  b2 : Int
def okT (g : GT) : Prop := g.b1 ≠ 0 ∧ g.b2 ≠ 0 ∧ g.t1.natAbs < 2 ^ 3999 ∧ g.b1.natAbs < 2 ^ 3999 ∧ g.t2.natAbs < 2 ^ 3999 ∧ g.b2.natAbs < 2 ^ 3999
abbrev spTimesT (K : PySem.W.Frag) : Sp := sp2 okT (fun g => .t2 K (.c (.int g.t1)) (.c (.int g.b1))) (fun g => .t2 K (.c (.int g.t2)) (.c (.int g.b2))) (fun g => .fr K (Rat.divInt (g.t1 * g.t2) (g.b1 * g.b2)))
theorem sc_law_times : FnScope ["one", "other"] ["one", "other"] (defScope (top 45)) := ⟨rfl, rfl, rfl, by decide +kernel, rfl, by decide +kernel, by decide +kernel⟩
theorem ok_law_times {f : Addr} {fd : FuncData} {f_O : Addr} {fd_O : FuncData} (O : Ok P wd K mg base 2 "_law_ratio" ["top", "bottom"] (spRatio K) f_O fd_O) (F : At K mg "_law_times" 45 f fd) : Ok P wd K mg base 3 "_law_times" ["one", "other"] (spTimesT K) f fd := by
  refine ⟨F.g, F.F.kp, F.F.bindsN fun _ _ _ _ _ _ us hl => match us, hl with | [_, _], _ => rfl, F.F.ok sc_law_times len2 fun cdv A outer s H vs Q E hr h => ?_⟩
  obtain ⟨g, x, y, hok, rfl, hx, hy, k⟩ := h
  obtain ⟨t1, b1, t2, b2⟩ := g
  obtain ⟨hb1, hb2, h1, h2, h3, h4⟩ := hok
  dsimp only at hb1 hb2 h1 h2 h3 h4
  refine ⟨_, PSs.nox (pss_one (ps_ret (pCall2 O hr (pMul (pIx0 (pv 0)) (pIx0 (pv 1))) (pMul (pIx1 (pv 0)) (pIx1 (pv 1)))))), ?_⟩
  have va : EvP (tVar 0) (L2.start ["one", "other"] [x, y]) H (.t2 K (.c (.int t1)) (.c (.int b1))) := e_var rfl hx
  have vb : EvP (tVar 1) (L2.start ["one", "other"] [x, y]) H (.t2 K (.c (.int t2)) (.c (.int b2))) := e_var rfl hy
  refine s_retP (u_ratio (a := t1 * t2) (b := b1 * b2) ⟨?_, ?_, ?_⟩ (e_I (mulSz h1 h3 (by decide) (by decide) (by decide)) (e_ix0 va) (e_ix0 vb)) (e_I (mulSz h2 h4 (by decide) (by decide) (by decide)) (e_ix1 va) (e_ix1 vb))) k
  · exact Int.mul_ne_zero hb1 hb2
  · exact sz_mul' h1 h3 (by decide)
  · exact sz_mul' h2 h4 (by decide)
theorem under_eq (b : Rat) (u : Int) : Rat.divInt (b.num * ((if b.num < 0 then -b.num else b.num) * u)) ((b.den : Int) * (b.den : Int)) = U (u : Rat) b := by
  rw [abs_num, ← Rat.divInt_mul_divInt, Rat.num_divInt_den]
  have h := mul_eq b.abs (u : Rat)
  rw [abs_den] at h
  have h : Rat.divInt (b.abs.num * u) ((b.den : Int) * ((1 : Nat) : Int)) = b.abs * (u : Rat) := h
  rw [show ((b.den : Int) * ((1 : Nat) : Int)) = (b.den : Int) by omega] at h
  rw [h]
  unfold U
  rw [Rat.mul_assoc]
structure GA where
  a : Rat
  b : Rat
  u : Int
abbrev spAsNum (K : PySem.W.Frag) : Sp := sp2 (fun g : GA => Sz 4 g.a ∧ Sz 4 g.b ∧ g.u.natAbs < 2 ^ 7) (fun g => .t2 K (.fr K g.a) (.fr K g.b)) (fun g => .c (.int g.u)) (fun g => .rn K (g.u : Rat) ⟨g.a, g.b⟩)
theorem sc_law_as_number : FnScope ["pair", "under", "size"] ["pair", "under"] (defScope (top 49)) := ⟨rfl, rfl, rfl, by decide +kernel, rfl, by decide +kernel, by decide +kernel⟩
theorem ok_law_as_number {f : Addr} {fd : FuncData} (T : Txt K mg z o n) {f_O : Addr} {fd_O : FuncData} (O : Ok P wd K mg base 3 "_law_times" ["one", "other"] (spTimesT K) f_O fd_O) (F : At K mg "_law_as_number" 49 f fd) : Ok P wd K mg base 4 "_law_as_number" ["pair", "under"] (spAsNum K) f fd := by
  refine ⟨F.g, F.F.kp, F.F.bindsN fun _ _ _ _ _ _ us hl => match us, hl with | [_, _], _ => rfl, F.F.ok sc_law_as_number len2 fun cdv A outer s H vs Q E hr h => ?_⟩
  obtain ⟨g, x, y, hok, rfl, hx, hy, k⟩ := h
  obtain ⟨a, b, u⟩ := g
  obtain ⟨ha, hb, hu⟩ := hok
  dsimp only at ha hb hu
  cases hy
  refine ⟨_, PSs.nox (pss_cons (ps_set (i := 2) sc_law_as_number.nd rfl (.inl rfl) (pT2 (pMul (pAbs T.abs (pIx0 (pIx1 (pv 0)))) (pv 1)) (pIx1 (pIx1 (pv 0))))) (pss_one (ps_ret (pT2 (pIx0 (pv 0)) (pCall2 O hr (pIx1 (pv 0)) (pv 2)))))), ?_⟩
  have v0 : EvP (tVar 0) (L2.start ["pair", "under", "size"] [x, .int u]) H (.t2 K (.fr K a) (.fr K b)) := e_var rfl hx
  have zb := sz_num hb
  have za : (if b.num < 0 then -b.num else b.num).natAbs < 2 ^ 4 := by split <;> omega
  refine q_asgP (e_t2 (K := K) (e_I (C := CMulW) (g := fun i j => V.int (i * j)) (j := u) (mulSz za hu (by decide) (by decide) (by decide)) (e_abs (e_num (e_ix1 v0))) (e_var (i := 1) rfl rfl)) (e_den (e_ix1 v0))) fun v H1 e1 hv => ?_
  have v0 : EvP (tVar 0) [some x, some (.int u), some v] H1 (.t2 K (.fr K a) (.fr K b)) := e_var rfl ((Ty.t2 K _ _).ex e1 hx)
  have up : ∀ {i : Int} {m : Nat}, i.natAbs < 2 ^ m → m ≤ 3999 → i.natAbs < 2 ^ 3999 := fun h g => Nat.lt_of_lt_of_le h (Nat.pow_le_pow_right (by decide) g)
  have h : EvP (tCall (spTimesT K) [] E0 (tCons (tOp (rIxT K) (tVar 0) (tC (.int 1))) (tCons (tVar 2) tNil))) [some x, some (.int u), some v] H1 (.fr K (Rat.divInt (b.num * ((if b.num < 0 then -b.num else b.num) * u)) ((b.den : Int) * (b.den : Int)))) :=
    e_call2 (⟨b.num, b.den, (if b.num < 0 then -b.num else b.num) * u, b.den⟩ : GT) ⟨den_ne' b, den_ne' b, up zb (by decide), up (sz_den hb) (by decide), up (sz_mul' (c := 11) za hu (by decide)) (by decide), up (sz_den hb) (by decide)⟩ (e_ix1 v0) (e_var rfl hv)
  exact s_retP (e_rn (x := ⟨a, b⟩) (e_ix0 v0) h rfl (under_eq b u)) fun v H2 e2 hv => k v H2 (e1.trans e2) hv
theorem sc_law_both : FnScope ["state"] ["state"] (defScope (top 53)) := ⟨rfl, rfl, rfl, by decide +kernel, rfl, by decide +kernel, by decide +kernel⟩
theorem ok_law_both {f : Addr} {fd : FuncData} {f_O : Addr} {fd_O : FuncData} (O : Ok P wd K mg base 1 "_law_take" ["state", "many"] spTake f_O fd_O) {f_O2 : Addr} {fd_O2 : FuncData} (O2 : Ok P wd K mg base 3 "_law_small" ["state"] (spS (.frZ K 4)) f_O2 fd_O2) (F : At K mg "_law_both" 53 f fd) : Ok P wd K mg base 4 "_law_both" ["state"] (spS (.prZ K 4)) f fd := by
  refine ⟨F.g, F.F.kp, F.F.bindsN fun _ _ _ _ _ _ us hl => match us, hl with | [_], _ => rfl, F.F.ok sc_law_both (fun vs H Q E h => ?_) fun cdv A outer s H vs Q E hr h => ?_⟩
  · obtain ⟨l, rfl, hst, k⟩ := h
    rfl
  obtain ⟨l, rfl, hst, k⟩ := h
  refine ⟨_, PSs.nox (pss_cons (ps_if (qEq (pCall2 O hr (pv 0) pe_int) pe_int) (pss_one (ps_ret (pT2 (pCall1 O2 hr (pv 0)) (pT2 pe_int pe_int)))) pss_nil) (pss_one (ps_ret (pT2 (pCall1 O2 hr (pv 0)) (pCall1 O2 hr (pv 0)))))), ?_⟩
  refine s_take (l := l) (H := H) (m := 2) rfl (by decide) (by decide) H (ExB.refl l H) hst _ fun v H1 e1 s1 ⟨i, hv, _, _⟩ => ?_
  subst hv
  refine ⟨rfl, _, rfl, ?_⟩
  have sm : EvS l (tCall (spS (.frZ K 4)) [] E0 (tCons (tVar 0) tNil)) (L2.start ["state"] [.ref l]) H1 (.frZ K 4) := s_call rfl
  refine ite2 (fun _ => ?_) (fun _ => ?_)
  · refine s_t2 (K := K) sm (s_t2 (K := K) s_c s_c) H1 (ExB.refl l H1) s1 Q fun v H2 e2 s2 hv => k v H2 (e1.trans e2) s2 ?_
    obtain ⟨p, x, y, rfl, hs, ⟨q, zq, hq⟩, hy⟩ := hv
    exact ⟨q, 0, zq, Sz.zero.mono (by decide), p, x, y, rfl, hs, hq, hy⟩
  · refine s_t2 (K := K) sm sm H1 (ExB.refl l H1) s1 Q fun v H2 e2 s2 hv => k v H2 (e1.trans e2) s2 ?_
    obtain ⟨p, x, y, rfl, hs, ⟨q, zq, hq⟩, q', zq', hq'⟩ := hv
    exact ⟨q, q', zq, zq', p, x, y, rfl, hs, hq, hq'⟩
end
end K16

set_option maxHeartbeats 4000000
set_option exponentiation.threshold 10000
/-! ### the law -/
namespace K16
open PySem PySem.Spec PyProof.Rows L2 Evl
section
variable {X : Cx} {e e2 : Expr} {t u : TE} {pos : Pos}
theorem vIsT {j : Nat} {p : Pos} {b : Bool} (h : PE X e t) : PE X (.Compare e [.Is] [.Constant (.bool b) j p] pos) (tOp rIsBl t (tC (.bl b))) := pe_cmpR op_is_bl h pe_bl (nomark _)
theorem pMax {p : Pos} (hc : X.calm = true) (hm : X.mg "max" = none) (h : PE X e t) (g : PE X e2 u) (hg : Gl X "max" := by rfl) (hs : starEach [e, e2] X.env = (false, eval e X.env) :: starEach [e2] X.env := by rfl) (hs2 : starEach [e2] X.env = (false, eval e2 X.env) :: starEach [] X.env := by rfl)
    (hp : (backTo pos (starEach [e2] X.env)).any (·.1) = false := by rfl) : PE X (.Call (.Name "max" p) [e, e2] [] pos) (tCB (fun xs H Q => ∃ i j, xs = [.int i, .int j] ∧ Q (.int (if j > i then j else i)) H) (tCons t (tCons u tNil))) :=
  pe_callB (call_max2 hc) hg hm (by decide +kernel) (pa_cons h (pa_cons g pa_nil hs2) hs) (he := hs) (hpl := hp)
theorem pMin {p : Pos} (hc : X.calm = true) (hm : X.mg "min" = none) (h : PE X e t) (g : PE X e2 u) (hg : Gl X "min" := by rfl) (hs : starEach [e, e2] X.env = (false, eval e X.env) :: starEach [e2] X.env := by rfl) (hs2 : starEach [e2] X.env = (false, eval e2 X.env) :: starEach [] X.env := by rfl)
    (hp : (backTo pos (starEach [e2] X.env)).any (·.1) = false := by rfl) : PE X (.Call (.Name "min" p) [e, e2] [] pos) (tCB (fun xs H Q => ∃ i j, xs = [.int i, .int j] ∧ Q (.int (if j < i then j else i)) H) (tCons t (tCons u tNil))) :=
  pe_callB (call_min2 hc) hg hm (by decide +kernel) (pa_cons h (pa_cons g pa_nil hs2) hs) (he := hs) (hpl := hp)
end
section
variable {P : Program} {wd : World} {K : PySem.W.Frag} {mg : Str → Option Value} {base : Heap} {z o n : Addr}
structure G3 where
  w : Rat
  x : El
  y : El
  z : El
def okE3 (g : G3) : Prop := Irr g.w ∧ Sz 7 g.w ∧ ESz 4 g.x ∧ ESz 4 g.y ∧ ESz 4 g.z
abbrev spGroups (K : PySem.W.Frag) : Sp := sp3 okE3 (fun g => .rn K g.w g.x) (fun g => .rn K g.w g.y) (fun g => .rn K g.w g.z) (fun _ => .c (.bl true))
abbrev spBack (K : PySem.W.Frag) : Sp := sp2 (okE2 4) (fun g => .rn K g.w g.x) (fun g => .rn K g.w g.y) (fun _ => .c (.bl true))
section
variable {σ : L2.St} {H : Hp} {ta tb tc : TE} {w : Rat} {x y : El}
theorem e_neS (e : x = y) (ha : EvP ta σ H (.rn K w x)) (hb : EvP tb σ H (.rn K w y)) : EvP (tOp (rNeD K) ta tb) σ H (.c (.bl false)) := by
  subst e
  exact (e_neD dt_rn dt_rn (sh_rn _ _) (sh_rn _ _) ha hb).cast (by rw [eqv_self]; rfl)
theorem e_eqS (e : x = y) (ha : EvP ta σ H (.rn K w x)) (hb : EvP tb σ H (.rn K w y)) : EvP (tOp (rEqD K) ta tb) σ H (.c (.bl true)) := by
  subst e
  exact (e_eqD dt_rn dt_rn (sh_rn _ _) (sh_rn _ _) ha hb).cast (by rw [eqv_self])
theorem u_groups {z : El} (i : Irr w) (hw : Sz 7 w) (hx : ESz 4 x) (hy : ESz 4 y) (hz : ESz 4 z) (h1 : EvP ta σ H (.rn K w x)) (h2 : EvP tb σ H (.rn K w y)) (h3 : EvP tc σ H (.rn K w z)) : EvP (tCall (spGroups K) [] E0 (tCons ta (tCons tb (tCons tc tNil)))) σ H (.c (.bl true)) :=
  e_call3 (⟨w, x, y, z⟩ : G3) ⟨i, hw, hx, hy, hz⟩ h1 h2 h3
theorem u_back (i : Irr w) (hw : Sz 7 w) (hx : ESz 4 x) (hy : ESz 4 y) (h1 : EvP ta σ H (.rn K w x)) (h2 : EvP tb σ H (.rn K w y)) : EvP (tCall (spBack K) [] E0 (tCons ta (tCons tb tNil))) σ H (.c (.bl true)) :=
  e_call2 (⟨w, x, y⟩ : G2) ⟨i, hw, hx, hy⟩ h1 h2
end
theorem sc_law_groups : FnScope ["one", "other", "third"] ["one", "other", "third"] (defScope (top 54)) := ⟨rfl, rfl, rfl, by decide +kernel, rfl, by decide +kernel, by decide +kernel⟩
theorem ok_law_groups {f : Addr} {fd : FuncData} {f_O : Addr} {fd_O : FuncData} (O : Ok P wd K mg base 5 "root_plus" ["one", "other"] (spRPlus K) f_O fd_O) {f_O2 : Addr} {fd_O2 : FuncData} (O2 : Ok P wd K mg base 5 "root_times" ["one", "other"] (spRTimes K) f_O2 fd_O2) (F : At K mg "_law_groups" 54 f fd) : Ok P wd K mg base 6 "_law_groups" ["one", "other", "third"] (spGroups K) f fd := by
  refine ⟨F.g, F.F.kp, F.F.bindsN fun _ _ _ _ _ _ us hl => match us, hl with | [_, _, _], _ => rfl, F.F.ok sc_law_groups len3 fun cdv A outer s H vs Q E hr h => ?_⟩
  obtain ⟨g, x, y, z, hok, rfl, hx, hy, hz, k⟩ := h
  obtain ⟨w, a, b, c⟩ := g
  obtain ⟨iw, hw, ha, hb, hc⟩ := hok
  dsimp only at iw hw ha hb hc
  refine ⟨_, PSs.nox (pss_cons (ps_if (PW.pt (pw_or (qNeD hr.units (pCall2 O hr (pv 0) (pv 1)) (pCall2 O hr (pv 1) (pv 0))) (pw_or1 (qNeD hr.units (pCall2 O2 hr (pv 0) (pv 1)) (pCall2 O2 hr (pv 1) (pv 0)))))) (pss_one (ps_ret pe_bl)) pss_nil)
    (pss_cons (ps_if (qNeD hr.units (pCall2 O hr (pCall2 O hr (pv 0) (pv 1)) (pv 2)) (pCall2 O hr (pv 0) (pCall2 O hr (pv 1) (pv 2)))) (pss_one (ps_ret pe_bl)) pss_nil)
    (pss_cons (ps_if (qNeD hr.units (pCall2 O2 hr (pCall2 O2 hr (pv 0) (pv 1)) (pv 2)) (pCall2 O2 hr (pv 0) (pCall2 O2 hr (pv 1) (pv 2)))) (pss_one (ps_ret pe_bl)) pss_nil)
    (pss_one (ps_ret (vEqD hr.units (pCall2 O2 hr (pv 0) (pCall2 O hr (pv 1) (pv 2))) (pCall2 O hr (pCall2 O2 hr (pv 0) (pv 1)) (pCall2 O2 hr (pv 0) (pv 2))))))))), ?_⟩
  have v0 : EvP (tVar 0) (L2.start ["one", "other", "third"] [x, y, z]) H (.rn K w a) := e_var rfl hx
  have v1 : EvP (tVar 1) (L2.start ["one", "other", "third"] [x, y, z]) H (.rn K w b) := e_var rfl hy
  have v2 : EvP (tVar 2) (L2.start ["one", "other", "third"] [x, y, z]) H (.rn K w c) := e_var rfl hz
  have up : ∀ {m : Nat} {q : El}, ESz m q → m ≤ 128 → ESz 128 q := fun h g => h.mono g
  have ha' := up ha (by decide)
  have hb' := up hb (by decide)
  have hc' := up hc (by decide)
  have pl : ∀ {p q : El} {ta tb : TE} {H' : Hp}, ESz 128 p → ESz 128 q → EvP ta (L2.start ["one", "other", "third"] [x, y, z]) H' (.rn K w p) → EvP tb _ H' (.rn K w q) → EvP (tCall (spRPlus K) [] E0 (tCons ta (tCons tb tNil))) _ H' (.rn K w (p.add q)) := fun h g h1 h2 => u_rplus iw hw h g h1 h2
  have tm : ∀ {p q : El} {ta tb : TE} {H' : Hp}, ESz 128 p → ESz 128 q → EvP ta (L2.start ["one", "other", "third"] [x, y, z]) H' (.rn K w p) → EvP tb _ H' (.rn K w q) → EvP (tCall (spRTimes K) [] E0 (tCons ta (tCons tb tNil))) _ H' (.rn K w (p.mul w q)) := fun h g h1 h2 => u_rtimes iw hw h g h1 h2
  refine q_whenF (et_or (a := false) (b := false) (t_test (e_neS (add_comm a b) (pl ha' hb' v0 v1) (pl hb' ha' v1 v0))) fun _ => t_test (e_neS (mul_comm a b) (tm ha' hb' v0 v1) (tm hb' ha' v1 v0))) fun H1 e1 => ?_
  have v0 := v0.mono e1
  have v1 := v1.mono e1
  have v2 := v2.mono e1
  have ab := up (ha.add hb) (by decide)
  have bc := up (hb.add hc) (by decide)
  refine q_whenF (t_test (e_neS (add_assoc a b c) (pl ab hc' (pl ha' hb' v0 v1) v2) (pl ha' bc v0 (pl hb' hc' v1 v2)))) fun H2 e2 => ?_
  have v0 := v0.mono e2
  have v1 := v1.mono e2
  have v2 := v2.mono e2
  have tab := up (ha.mul hw hb) (by decide)
  have tbc := up (hb.mul hw hc) (by decide)
  have tac := up (ha.mul hw hc) (by decide)
  refine q_whenF (t_test (e_neS (mul_assoc a b c) (tm tab hc' (tm ha' hb' v0 v1) v2) (tm ha' tbc v0 (tm hb' hc' v1 v2)))) fun H3 e3 => ?_
  have v0 := v0.mono e3
  have v1 := v1.mono e3
  have v2 := v2.mono e3
  exact s_retP (e_eqS (mul_add a b c) (tm ha' bc v0 (pl hb' hc' v1 v2)) (pl tab tac (tm ha' hb' v0 v1) (tm ha' hc' v0 v2))) fun v H4 e4 hv => k v H4 (((e1.trans e2).trans e3).trans e4) hv
theorem sc_law_goes_back : FnScope ["one", "other"] ["one", "other"] (defScope (top 55)) := ⟨rfl, rfl, rfl, by decide +kernel, rfl, by decide +kernel, by decide +kernel⟩
theorem ok_law_goes_back {f : Addr} {fd : FuncData} {f_O : Addr} {fd_O : FuncData} (O : Ok P wd K mg base 6 "root_minus" ["one", "other"] (spRMinus K) f_O fd_O) {f_O2 : Addr} {fd_O2 : FuncData} (O2 : Ok P wd K mg base 5 "root_plus" ["one", "other"] (spRPlus K) f_O2 fd_O2) {f_O3 : Addr} {fd_O3 : FuncData} (O3 : Ok P wd K mg base 5 "root_sign" ["one"] (spRSign K) f_O3 fd_O3) {f_O4 : Addr} {fd_O4 : FuncData} (O4 : Ok P wd K mg base 5 "root_times" ["one", "other"] (spRTimes K) f_O4 fd_O4) {f_O5 : Addr} {fd_O5 : FuncData} (O5 : Ok P wd K mg base 6 "root_over" ["one", "other"] (spROver K) f_O5 fd_O5) {f_O6 : Addr} {fd_O6 : FuncData} (O6 : Ok P wd K mg base 4 "made" ["part", "under"] (spMade K) f_O6 fd_O6) {f_O7 : Addr} {fd_O7 : FuncData} (O7 : Ok P wd K mg base 3 "is_number" ["thing"] (spNumber K) f_O7 fd_O7) (F : At K mg "_law_goes_back" 55 f fd) : Ok P wd K mg base 7 "_law_goes_back" ["one", "other"] (spBack K) f fd := by
  refine ⟨F.g, F.F.kp, F.F.bindsN fun _ _ _ _ _ _ us hl => match us, hl with | [_, _], _ => rfl, F.F.ok sc_law_goes_back len2 fun cdv A outer s H vs Q E hr h => ?_⟩
  obtain ⟨g, x, y, hok, rfl, hx, hy, k⟩ := h
  obtain ⟨w, a, b⟩ := g
  obtain ⟨iw, hw, ha, hb⟩ := hok
  dsimp only at iw hw ha hb
  refine ⟨_, PSs.nox (pss_cons (ps_if (PW.pt (pw_or (qNeD hr.units (pCall2 O hr (pCall2 O2 hr (pv 0) (pv 1)) (pv 1)) (pv 0)) (pw_or1 (qNeD hr.units (pCall2 O2 hr (pCall2 O hr (pv 0) (pv 1)) (pv 1)) (pv 0))))) (pss_one (ps_ret pe_bl)) pss_nil)
    (pss_cons (ps_if (PW.pt (pw_and (qNe (pCall1 O3 hr (pv 1)) pe_int) (pw_and1 (qNeD hr.units (pCall2 O4 hr (pCall2 O5 hr (pv 0) (pv 1)) (pv 1)) (pv 0))))) (pss_one (ps_ret pe_bl)) pss_nil)
    (pss_cons (ps_if (PW.pt (pw_or (qLt (pCall1 O3 hr (pCall2 O4 hr (pv 0) (pv 0))) pe_int) (pw_or1 (qNe (pCall1 O3 hr (pCall2 O4 hr (pv 0) (pv 1))) (pMul (pCall1 O3 hr (pv 0)) (pCall1 O3 hr (pv 1))))))) (pss_one (ps_ret pe_bl)) pss_nil)
    (pss_one (ps_ret (pe_and (vEqD hr.units (pCall2 O6 hr (pIx0 (pv 0)) (pIx1 (pv 0))) (pv 0)) (pe_one (vIsT (pCall1 O7 hr (pCall2 O4 hr (pv 0) (pv 1))))))))))), ?_⟩
  have v0 : EvP (tVar 0) (L2.start ["one", "other"] [x, y]) H (.rn K w a) := e_var rfl hx
  have v1 : EvP (tVar 1) (L2.start ["one", "other"] [x, y]) H (.rn K w b) := e_var rfl hy
  have up : ∀ {m : Nat} {q : El}, ESz m q → m ≤ 128 → ESz 128 q := fun h g => h.mono g
  have ha' := up ha (by decide)
  have hb' := up hb (by decide)
  have ab := up (ha.add hb) (by decide)
  have sab := up (ha.sub hb) (by decide)
  refine q_whenF (et_or (a := false) (b := false) (t_test (e_neS (add_sub a b) (u_rminus iw hw ab hb' (u_rplus iw hw ha' hb' v0 v1) v1) v0)) fun _ => t_test (e_neS (sub_add a b) (u_rplus iw hw sab hb' (u_rminus iw hw ha' hb' v0 v1) v1) v0)) fun H1 e1 => ?_
  have v0 := v0.mono e1
  have v1 := v1.mono e1
  have t1 := t_test (e_ne (x := .int (b.sgn w)) (y := .int 0) rfl (u_rsign iw hw (hb.mono (by decide)) v1) e_c)
  refine q_whenF (et_is (et_and (b := false) t1 fun hne => ?_) (Bool.and_false _)) fun H2 e2 => ?_
  · have b0 : ¬ (b.a = 0 ∧ b.b = 0) := fun z => by
      have : b.sgn w = 0 := by
        unfold El.sgn
        rw [z.1, z.2, sg_zero]
        rfl
      rw [this] at hne
      cases hne
    have zi := hb.inv hw
    have zo := up ((ha.mono (show 4 ≤ 29 by decide)).mul hw zi) (by decide)
    exact t_test (e_neS (over_mul iw b0) (u_rtimes iw hw zo hb' (u_rover iw hw (ha.mono (by decide)) (hb.mono (by decide)) b0 v0 v1) v1) v0)
  have v0 := v0.mono e2
  have v1 := v1.mono e2
  have taa := ha.mul hw ha
  have tab := ha.mul hw hb
  have sm : ∀ q : El, (q.sgn w).natAbs < 2 ^ 1 := fun q => by
    rcases sgn_cases (w := w) q with e | e | e <;> rw [e] <;> decide
  refine q_whenF (et_or (a := false) (b := false) (et_is (t_test (e_I0 (g := fun i j => V.bl (decide (i < j))) (i := (a.mul w a).sgn w) (j := 0) (u_rsign iw hw (taa.mono (by decide)) (u_rtimes iw hw ha' ha' v0 v0)) e_c)) ?_) fun _ =>
    et_is (t_test (e_ne (x := .int ((a.mul w b).sgn w)) (y := .int (a.sgn w * b.sgn w)) rfl (u_rsign iw hw (tab.mono (by decide)) (u_rtimes iw hw ha' hb' v0 v1)) (e_I (C := CMulW) (g := fun i j => V.int (i * j)) (mulSz (sm a) (sm b) (by decide) (by decide) (by decide)) (u_rsign iw hw (ha.mono (by decide)) v0) (u_rsign iw hw (hb.mono (by decide)) v1)))) ?_) fun H3 e3 => ?_
  · rw [sgn_mul iw]
    rcases sgn_cases (w := w) a with e | e | e <;> rw [e] <;> decide
  · rw [sgn_mul iw, decide_eq_true rfl]
    rfl
  have v0 := v0.mono e3
  have v1 := v1.mono e3
  exact s_retP (e_andV (a := true) (b := true) (e_eqS rfl (u_made iw hw (ha.mono (by decide)) (e_part v0) (e_und v0)) v0) fun _ => e_isB (a := true) (b := true) (u_number iw hw (tab.mono (by decide)) (u_rtimes iw hw ha' hb' v0 v1)) e_c) fun v H4 e4 hv => k v H4 (((e1.trans e2).trans e3).trans e4) hv
theorem u_order {σ : L2.St} {H : Hp} {ta tb tc : TE} {w : Rat} {x y z : El} (i : Irr w) (hw : Sz 7 w) (hx : ESz 4 x) (hy : ESz 4 y) (hz : ESz 4 z) (h1 : EvP ta σ H (.rn K w x)) (h2 : EvP tb σ H (.rn K w y)) (h3 : EvP tc σ H (.rn K w z)) : EvP (tCall (spGroups K) [] E0 (tCons ta (tCons tb (tCons tc tNil)))) σ H (.c (.bl true)) :=
  e_call3 (⟨w, x, y, z⟩ : G3) ⟨i, hw, hx, hy, hz⟩ h1 h2 h3
theorem e_eqB {σ : L2.St} {H : Hp} {ta tb : TE} {a b : Bool} (ha : EvP ta σ H (.c (.bl a))) (hb : EvP tb σ H (.c (.bl b))) : EvP (tOp rEq ta tb) σ H (.c (.bl (decide (a = b)))) :=
  (e_eq (x := .bl a) (y := .bl b) rfl ha hb).cast (by cases a <;> cases b <;> rfl)
theorem e_neB {σ : L2.St} {H : Hp} {ta tb : TE} {a b : Bool} (ha : EvP ta σ H (.c (.bl a))) (hb : EvP tb σ H (.c (.bl b))) : EvP (tOp rNe ta tb) σ H (.c (.bl (!decide (a = b)))) :=
  (e_ne (x := .bl a) (y := .bl b) rfl ha hb).cast (by cases a <;> cases b <;> rfl)
theorem sc_law_in_order : FnScope ["one", "other", "third", "ahead", "mine", "theirs"] ["one", "other", "third"] (defScope (top 56)) := ⟨rfl, rfl, rfl, by decide +kernel, rfl, by decide +kernel, by decide +kernel⟩
theorem ok_law_in_order {f : Addr} {fd : FuncData} {f_O : Addr} {fd_O : FuncData} (O : Ok P wd K mg base 7 "root_less" ["one", "other"] (spRLess K) f_O fd_O) {f_O2 : Addr} {fd_O2 : FuncData} (O2 : Ok P wd K mg base 5 "root_sign" ["one"] (spRSign K) f_O2 fd_O2) {f_O3 : Addr} {fd_O3 : FuncData} (O3 : Ok P wd K mg base 6 "root_minus" ["one", "other"] (spRMinus K) f_O3 fd_O3) {f_O4 : Addr} {fd_O4 : FuncData} (O4 : Ok P wd K mg base 5 "root_plus" ["one", "other"] (spRPlus K) f_O4 fd_O4) {f_O5 : Addr} {fd_O5 : FuncData} (O5 : Ok P wd K mg base 5 "root_times" ["one", "other"] (spRTimes K) f_O5 fd_O5) (F : At K mg "_law_in_order" 56 f fd) : Ok P wd K mg base 8 "_law_in_order" ["one", "other", "third"] (spGroups K) f fd := by
  refine ⟨F.g, F.F.kp, F.F.bindsN fun _ _ _ _ _ _ us hl => match us, hl with | [_, _, _], _ => rfl, F.F.ok sc_law_in_order len3 fun cdv A outer s H vs Q E hr h => ?_⟩
  obtain ⟨g, x, y, z, hok, rfl, hx, hy, hz, k⟩ := h
  obtain ⟨w, a, b, c⟩ := g
  obtain ⟨iw, hw, ha, hb, hc⟩ := hok
  dsimp only at iw hw ha hb hc
  refine ⟨_, PSs.nox (pss_cons (ps_set (i := 3) sc_law_in_order.nd rfl (.inl rfl) (pCall2 O hr (pv 0) (pv 1)))
    (pss_cons (ps_if (PW.pt (pw_or (PW.pt (pw_and (pt_val (pv 3)) (pw_and1 (pt_val (pCall2 O hr (pv 1) (pv 0)))))) (pw_or1 (qNe (pv 3) (vLt (pCall1 O2 hr (pCall2 O3 hr (pv 0) (pv 1))) pe_int))))) (pss_one (ps_ret pe_bl)) pss_nil)
    (pss_cons (ps_if (qNe (pCall2 O hr (pCall2 O4 hr (pv 0) (pv 2)) (pCall2 O4 hr (pv 1) (pv 2))) (pv 3)) (pss_one (ps_ret pe_bl)) pss_nil)
    (pss_cons (ps_if (qEq (pCall1 O2 hr (pv 2)) pe_int) (pss_one (ps_ret pe_bl)) pss_nil)
    (pss_cons (ps_par (i := 4) (j := 5) rfl sc_law_in_order.nd rfl rfl (by decide) rfl rfl (pa_cons (pCall2 O5 hr (pv 0) (pv 2)) (pa_cons (pCall2 O5 hr (pv 1) (pv 2)) pa_nil)) (by rfl))
    (pss_one (ps_ret (vEq (pCall2 O hr (pv 4) (pv 5)) (pe_ifExp (qGt (pCall1 O2 hr (pv 2)) pe_int) (pv 3) (pCall2 O hr (pv 1) (pv 0))))))))))), ?_⟩
  have v0 : EvP (tVar 0) (L2.start ["one", "other", "third", "ahead", "mine", "theirs"] [x, y, z]) H (.rn K w a) := e_var rfl hx
  have v1 : EvP (tVar 1) (L2.start ["one", "other", "third", "ahead", "mine", "theirs"] [x, y, z]) H (.rn K w b) := e_var rfl hy
  have up : ∀ {m : Nat} {q : El}, ESz m q → m ≤ 128 → ESz 128 q := fun h g => h.mono g
  have ha' := up ha (by decide)
  have hb' := up hb (by decide)
  have hc' := up hc (by decide)
  generalize hs : (a.sub b).sgn w = s
  have hs2 : (b.sub a).sgn w = -s := by rw [sub_neg, sgn_negE, hs]
  refine q_asgP ((u_rless iw hw ha' hb' v0 v1).cast (by rw [hs])) fun v H1 e1 hv => ?_
  cases hv
  have v0 : EvP (tVar 0) [some x, some y, some z, some (.bl (decide (s < 0))), none, none] H1 (.rn K w a) := e_var rfl ((Ty.rn K _ _).ex e1 hx)
  have v1 : EvP (tVar 1) [some x, some y, some z, some (.bl (decide (s < 0))), none, none] H1 (.rn K w b) := e_var rfl ((Ty.rn K _ _).ex e1 hy)
  have v2 : EvP (tVar 2) [some x, some y, some z, some (.bl (decide (s < 0))), none, none] H1 (.rn K w c) := e_var rfl ((Ty.rn K _ _).ex e1 hz)
  have v3 : EvP (tVar 3) [some x, some y, some z, some (.bl (decide (s < 0))), none, none] H1 (.c (.bl (decide (s < 0)))) := e_var rfl rfl
  have sab := ha.sub hb
  refine q_whenF (et_is (et_or (b := false) (et_and (a := decide (s < 0)) (b := decide (-s < 0)) (t_B v3) fun _ => t_B ((u_rless iw hw hb' ha' v1 v0).cast (by rw [hs2]))) fun _ =>
    et_is (t_test (e_neB v3 (e_I0 (g := fun i j => V.bl (decide (i < j))) (i := s) (j := 0) ((u_rsign iw hw (sab.mono (by decide)) (u_rminus iw hw ha' hb' v0 v1)).cast (by rw [hs])) e_c))) (by rw [decide_eq_true rfl]; rfl)) ?_) fun H2 e2 => ?_
  · by_cases q : s < 0
    · rw [decide_eq_false (p := -s < 0) (by omega)]
      simp
    · rw [decide_eq_false q]
      rfl
  have v0 := v0.mono e2
  have v1 := v1.mono e2
  have v2 := v2.mono e2
  have v3 := v3.mono e2
  have ac := up (ha.add hc) (by decide)
  have bc := up (hb.add hc) (by decide)
  refine q_whenF (et_is (t_test (e_neB ((u_rless iw hw ac bc (u_rplus iw hw ha' hc' v0 v2) (u_rplus iw hw hb' hc' v1 v2)).cast (by rw [add_sub_add, hs])) v3)) (by rw [decide_eq_true rfl]; rfl)) fun H3 e3 => ?_
  have v0 := v0.mono e3
  have v1 := v1.mono e3
  have v2 := v2.mono e3
  have v3 := v3.mono e3
  have e03 := (e1.trans e2).trans e3
  have vs := u_rsign iw hw (hc.mono (by decide)) v2
  by_cases c0 : c.sgn w = 0
  · exact q_whenT (et_is (t_test (e_eq (x := .int (c.sgn w)) (y := .int 0) rfl vs e_c)) (decide_eq_true (by rw [c0]))) fun H4 e4 => s_retP (e_c (x := .bl true)) fun v H5 e5 hv => k v H5 ((e03.trans e4).trans e5) hv
  refine q_whenF (et_is (t_test (e_eq (x := .int (c.sgn w)) (y := .int 0) rfl vs e_c)) (decide_eq_false fun q => c0 (V.int.inj q))) fun H4 e4 => ?_
  have e04 := e03.trans e4
  refine q_parP (u_rtimes iw hw ha' hc' (v0.mono e4) (v2.mono e4)) (u_rtimes iw hw hb' hc' (v1.mono e4) (v2.mono e4)) fun p4 p5 H5 e5 h4 h5 => ?_
  have e05 := e04.trans e5
  have v0 : EvP (tVar 0) [some x, some y, some z, some (.bl (decide (s < 0))), some p4, some p5] H5 (.rn K w a) := e_var rfl ((Ty.rn K _ _).ex e05 hx)
  have v1 : EvP (tVar 1) [some x, some y, some z, some (.bl (decide (s < 0))), some p4, some p5] H5 (.rn K w b) := e_var rfl ((Ty.rn K _ _).ex e05 hy)
  have v2 : EvP (tVar 2) [some x, some y, some z, some (.bl (decide (s < 0))), some p4, some p5] H5 (.rn K w c) := e_var rfl ((Ty.rn K _ _).ex e05 hz)
  have v3 : EvP (tVar 3) [some x, some y, some z, some (.bl (decide (s < 0))), some p4, some p5] H5 (.c (.bl (decide (s < 0)))) := e_var rfl rfl
  have v4 : EvP (tVar 4) [some x, some y, some z, some (.bl (decide (s < 0))), some p4, some p5] H5 (.rn K w (a.mul w c)) := e_var rfl h4
  have v5 : EvP (tVar 5) [some x, some y, some z, some (.bl (decide (s < 0))), some p4, some p5] H5 (.rn K w (b.mul w c)) := e_var rfl h5
  have ml := (u_rless iw hw (up (ha.mul hw hc) (by decide)) (up (hb.mul hw hc) (by decide)) v4 v5).cast (T' := .c (.bl (decide (s * c.sgn w < 0)))) (by rw [mul_sub_mul, sgn_mul iw, hs])
  have oth := (u_rless iw hw hb' ha' v1 v0).cast (T' := .c (.bl (decide (-s < 0)))) (by rw [hs2])
  have tst := t_test (e_I0 (g := fun i j => V.bl (decide (j < i))) (i := c.sgn w) (j := 0) (u_rsign iw hw (hc.mono (by decide)) v2) e_c)
  refine s_retP ((e_eqB (a := decide (s * c.sgn w < 0)) (b := decide (s * c.sgn w < 0)) ml (e_if tst (fun hp => v3.cast ?_) (fun hp => oth.cast ?_))).cast (by rw [decide_eq_true rfl])) fun v H6 e6 hv => k v H6 (e05.trans e6) hv
  · have hp : 0 < c.sgn w := of_decide_eq_true hp
    rcases sgn_cases (w := w) c with e | e | e
    · rw [e, Int.mul_one]
    · omega
    · omega
  · have hp : ¬ 0 < c.sgn w := of_decide_eq_false hp
    rcases sgn_cases (w := w) c with e | e | e
    · omega
    · omega
    · rw [e, show s * -1 = -s by omega]
end
end K16

set_option maxHeartbeats 4000000
set_option exponentiation.threshold 10000
/-! ### the law itself -/
namespace K16
open PySem PySem.Spec PyProof.Rows L2 Evl
theorem ExT.updL {H : Hp} {p : Addr} {xs ys : List V} (h : H p = some (.lst xs)) : ExT H (upd H p (.lst ys)) := fun a o n e => by
  rw [upd_ne (fun q => by rw [q, h] at e; exact n _ (Option.some.inj e).symm)]
  exact e
theorem Sz.root {m : Nat} {r : Rat} (h : Sz m (r * r)) : Sz m r := by
  obtain ⟨a, b⟩ := sq_num r
  obtain ⟨h1, h2⟩ := h
  rw [a, Int.natAbs_mul] at h1
  rw [b] at h2
  refine ⟨?_, ?_⟩
  · rcases Nat.eq_zero_or_pos r.num.natAbs with z | z
    · rw [z]
      exact Nat.pow_pos (by decide)
    · exact Nat.lt_of_le_of_lt (Nat.le_mul_of_pos_left _ z) h1
  · exact Nat.lt_of_le_of_lt (Nat.le_mul_of_pos_left _ r.den_pos) h2
/-- the root of a fraction from 0 on, as root_of tells it -/
theorem root_any {u w : Rat} (i : Irr w) (hw : Sz 7 w) (h0 : 0 ≤ u) (hu : Sz 4 u) : ∃ (w' : Rat) (x : El), Irr w' ∧ Sz 7 w' ∧ ESz 4 x ∧ okRootOf ⟨u, w', x⟩ ∧ x.mul w' x = ⟨u, 0⟩ ∧ ¬ x.sgn w' < 0 := by
  by_cases h : ∃ r : Rat, r * r = u
  · obtain ⟨r, hr⟩ := h
    have hr2 : r.abs * r.abs = u := by rw [abs_sq, hr]
    have zr : Sz 4 r.abs := Sz.root (by rw [hr2]; exact hu)
    refine ⟨w, ⟨r.abs, 0⟩, i, hw, ⟨zr, Sz.zero.mono (by decide)⟩, ⟨h0, hu.mono (by decide), .inl ⟨r.abs, Rat.abs_nonneg, hr2, zr.mono (by decide), rfl⟩⟩, ?_, ?_⟩
    · unfold El.mul
      exact El.ext' (by dsimp only; grind) (by dsimp only; grind)
    · have e : El.sgn w ⟨r.abs, 0⟩ = sg r.abs := by
        unfold El.sgn
        rw [if_pos (.inr sg_zero)]
      rw [e]
      have : 0 ≤ r.abs := Rat.abs_nonneg
      rcases sg_cases r.abs with ⟨h, e⟩ | ⟨h, e⟩ | ⟨h, e⟩
      · rw [e]; decide
      · rw [e]; decide
      · grind
  · have hn : ∀ r : Rat, r * r ≠ u := fun r e => h ⟨r, e⟩
    have up : 0 < u := by
      have : u ≠ 0 := fun e => hn 0 (by rw [e, Rat.zero_mul])
      grind
    refine ⟨u, ⟨0, 1⟩, ⟨up, hn⟩, hu.mono (by decide), ⟨Sz.zero.mono (by decide), Sz.one.mono (by decide)⟩, ⟨h0, hu.mono (by decide), .inr ⟨hn, rfl, rfl⟩⟩, ?_, ?_⟩
    · unfold El.mul
      exact El.ext' (by dsimp only; grind) (by dsimp only; grind)
    · have e : El.sgn u ⟨0, 1⟩ = 1 := by
        unfold El.sgn
        have e0 : sg (0 : Rat) = 0 := sg_zero
        have e1 : sg (1 : Rat) = 1 := by decide
        show (if sg (0 : Rat) = sg (1 : Rat) ∨ sg (1 : Rat) = 0 then sg (0 : Rat) else if sg (0 : Rat) = 0 ∨ _ then sg (1 : Rat) else sg (0 : Rat)) = 1
        rw [e0, e1]
        rfl
      rw [e]
      decide
def spLaw (K : PySem.W.Frag) : Sp := fun vs H Q _ => ∃ (a : Addr) (ns : List Int), vs = [.ref a] ∧ SqL K H a (ns.map V.int) ∧ ∀ H', Q (.bl true) H'
section
variable {P : Program} {wd : World} {K : PySem.W.Frag} {mg : Str → Option Value} {base : Heap} {z o n : Addr}
/-- a turn's end, from the root on -/
theorem turn_end {σ : L2.St} {H : Hp} {D : Ends} {u w : Rat} (T : Txt K mg z o n) (iw : Irr w) (zw : Sz 7 w) {q : Rat} (zq : Sz 4 q) {s0 s1 s2 s3 s4 s5 s6 s8 s9 : Option V} {v7 : V} (hσ : σ = [s0, s1, s2, s3, s4, s5, s6, some v7, s8, s9]) (hv : (Ty.fr K q).is v7 H)
    (k : ∀ v H', Ex H H' → D.nx [s0, s1, s2, s3, s4, s5, s6, some v7, some v, s9] H') :
    tSeq (tAsg (tCall (spRootOf K) [] E0 (tCons (tTup (tCons (tCB rAbs (tCons (tOp (rIxT K) (tVar 7) (tC (.int 0))) tNil)) (tCons (tOp (rIxT K) (tVar 7) (tC (.int 1))) tNil))) tNil)) (gName 8))
      (tIfS (tOr (tTest (tOp (rNeD K) (tCall (spRTimes K) [] E0 (tCons (tVar 8) (tCons (tVar 8) tNil))) (tTup (tCons (tTup (tCons (tCB rAbs (tCons (tOp (rIxT K) (tVar 7) (tC (.int 0))) tNil)) (tCons (tOp (rIxT K) (tVar 7) (tC (.int 1))) tNil))) (tCons (tTup (tCons (tC (.int 0)) (tCons (tC (.int 1)) tNil))) tNil)))))
        (tTest (tOp (rI0 fun i j => .bl (decide (i < j))) (tCall (spRSign K) [] E0 (tCons (tVar 8) tNil)) (tC (.int 0))))) (tRet (tC (.bl false))) tNext) D σ H := by
  subst hσ
  obtain ⟨w', x, i', z', zx, ok', em, es⟩ := root_any iw zw (Rat.abs_nonneg (x := q)) zq.abs
  have top : ∀ {σ : L2.St} {H' : Hp}, EvP (tVar 7) σ H' (.fr K q) → EvP (tTup (tCons (tCB rAbs (tCons (tOp (rIxT K) (tVar 7) (tC (.int 0))) tNil)) (tCons (tOp (rIxT K) (tVar 7) (tC (.int 1))) tNil))) σ H' (.fr K q.abs) := fun {σ H'} h =>
    (e_t2 (K := K) (e_abs (e_num h)) (e_den h)).cast (by
      rw [abs_num]
      unfold Ty.fr
      rw [abs_den])
  refine q_asgP (u_rootOf ⟨q.abs, w', x⟩ ok' (top (e_var rfl hv))) fun v H1 e1 hr => ?_
  have h7 : EvP (tVar 7) [s0, s1, s2, s3, s4, s5, s6, some v7, some v, s9] H1 (.fr K q) := e_var rfl ((Ty.fr K q).ex e1 hv)
  have h8 : EvP (tVar 8) [s0, s1, s2, s3, s4, s5, s6, some v7, some v, s9] H1 (.rn K w' x) := e_var rfl hr
  have zx' : ESz 128 x := zx.mono (by decide)
  have rhs : EvP (tTup (tCons (tTup (tCons (tCB rAbs (tCons (tOp (rIxT K) (tVar 7) (tC (.int 0))) tNil)) (tCons (tOp (rIxT K) (tVar 7) (tC (.int 1))) tNil))) (tCons (tTup (tCons (tC (.int 0)) (tCons (tC (.int 1)) tNil))) tNil))) [s0, s1, s2, s3, s4, s5, s6, some v7, some v, s9] H1 (.rn K w' ⟨q.abs, 0⟩) :=
    e_rn (top h7) (e_t2 (A := .c (.int 0)) (B := .c (.int 1)) e_c e_c : EvP _ _ _ (.fr K 0)) rfl (U_zero w').symm
  refine s_when (et_or (a := false) (b := false) (t_test (e_neS em (u_rtimes i' z' zx' zx' h8 h8) rhs)) fun _ => et_is (t_test (e_I0 (g := fun i j => V.bl (decide (i < j))) (i := x.sgn w') (j := 0) (u_rsign i' z' (zx.mono (by decide)) h8) e_c)) (decide_eq_false es)) (fun q => nomatch q) fun _ H2 e2 => k v H2 (e1.trans e2)
theorem sc_law : FnScope ["script", "k", "state", "under", "one", "other", "third", "top", "root", "turn"] ["script"] (defScope (top 57)) := ⟨rfl, rfl, rfl, by decide +kernel, rfl, by decide +kernel, by decide +kernel⟩
theorem ok_law {f : Addr} {fd : FuncData} (T : Txt K mg z o n) {f_O1 : Addr} {fd_O1 : FuncData} (O1 : Ok P wd K mg base 2 "_law_state" ["script", "k"] (spState K) f_O1 fd_O1) {f_O2 : Addr} {fd_O2 : FuncData} (O2 : Ok P wd K mg base 2 "_law_open" ["state"] (spS .opn) f_O2 fd_O2) {f_O3 : Addr} {fd_O3 : FuncData} (O3 : Ok P wd K mg base 4 "_law_as_number" ["pair", "under"] (spAsNum K) f_O3 fd_O3) {f_O4 : Addr} {fd_O4 : FuncData} (O4 : Ok P wd K mg base 4 "_law_both" ["state"] (spS (.prZ K 4)) f_O4 fd_O4) {f_O5 : Addr} {fd_O5 : FuncData} (O5 : Ok P wd K mg base 6 "_law_groups" ["one", "other", "third"] (spGroups K) f_O5 fd_O5) {f_O6 : Addr} {fd_O6 : FuncData} (O6 : Ok P wd K mg base 7 "_law_goes_back" ["one", "other"] (spBack K) f_O6 fd_O6) {f_O7 : Addr} {fd_O7 : FuncData} (O7 : Ok P wd K mg base 8 "_law_in_order" ["one", "other", "third"] (spGroups K) f_O7 fd_O7) {f_O8 : Addr} {fd_O8 : FuncData} (O8 : Ok P wd K mg base 3 "_law_small" ["state"] (spS (.frZ K 4)) f_O8 fd_O8) {f_O9 : Addr} {fd_O9 : FuncData} (O9 : Ok P wd K mg base 5 "root_of" ["fraction"] (spRootOf K) f_O9 fd_O9) {f_O10 : Addr} {fd_O10 : FuncData} (O10 : Ok P wd K mg base 5 "root_times" ["one", "other"] (spRTimes K) f_O10 fd_O10) {f_O11 : Addr} {fd_O11 : FuncData} (O11 : Ok P wd K mg base 5 "root_sign" ["one"] (spRSign K) f_O11 fd_O11) (F : At K mg "law" 57 f fd) : FnOk P wd K mg base CX0 9 f fd ["script"] (spLaw K) := by
  refine F.F.ok sc_law (fun vs H Q E h => ?_) fun cdv A outer s H vs Q E hr h => ?_
  · obtain ⟨a, ns, rfl, _⟩ := h
    rfl
  obtain ⟨a, ns, rfl, hS, k⟩ := h
  refine ⟨_, PSs.nox (pss_cons (ps_for PassesOwn.never rfl (pi_range1 (by rfl) T.range (pa_cons (pMax rfl T.max pe_int (pMin rfl T.min (pLen T.len (pv 0)) pe_int)) pa_nil)) (pg_name (i := 1) sc_law.nd rfl (.inl rfl))
    (pss_cons (ps_set (i := 2) sc_law.nd rfl (.inr rfl) (pCall2 O1 hr (pv 0) (pv 1)))
    (pss_cons (ps_set (i := 3) sc_law.nd rfl (.inr rfl) (pCall1 O2 hr (pv 2)))
    (pss_cons (ps_asg (pe_lc (own := [("turn", 9)]) (g := gName 9) (tt := tYes) rfl sc_law.nd (pi_range1 (by rfl) T.range (pa_cons pe_int pa_nil)) (blkOk_by (N := ["script", "k", "state", "under", "one", "other", "third", "top", "root", "turn"]) (sc := defScope (top 57)) (by decide +kernel)) (fun _ _ _ _ _ => pg_name (i := 9) sc_law.nd rfl (.inl rfl)) (fun _ _ _ _ _ => pts_nil)
        (fun _ _ _ _ _ => pCall2 O3 hr (pCall1 O4 hr (pv 2)) (pv 3)))
      (pg_unl rfl (pgs_cons (pg_name (i := 4) sc_law.nd rfl (.inl rfl)) (pgs_cons (pg_name (i := 5) sc_law.nd rfl (.inl rfl)) (pgs_cons (pg_name (i := 6) sc_law.nd rfl (.inl rfl)) pgs_nil)))))
    (pss_cons (ps_if (PW.pt (pw_or (pt_not (pt_val (pCall3 O5 hr (pv 4) (pv 5) (pv 6)))) (pw_or (pt_not (pt_val (pCall2 O6 hr (pv 4) (pv 5)))) (pw_or1 (pt_not (pt_val (pCall2 O6 hr (pv 5) (pv 6)))))))) (pss_one (ps_ret pe_bl)) pss_nil)
    (pss_cons (ps_if (PW.pt (pw_or (pt_not (pt_val (pCall3 O7 hr (pv 4) (pv 5) (pv 6)))) (pw_or1 (pt_not (pt_val (pCall3 O7 hr (pv 5) (pv 6) (pv 4))))))) (pss_one (ps_ret pe_bl)) pss_nil)
    (pss_cons (ps_set (i := 7) sc_law.nd rfl (.inl rfl) (pCall1 O8 hr (pv 2)))
    (pss_cons (ps_set (i := 8) sc_law.nd rfl (.inl rfl) (pCall1 O9 hr (pT2 (pAbs T.abs (pIx0 (pv 7))) (pIx1 (pv 7)))))
    (pss_one (ps_if (PW.pt (pw_or (qNeD hr.units (pCall2 O10 hr (pv 8) (pv 8)) (pT2 (pT2 (pAbs T.abs (pIx0 (pv 7))) (pIx1 (pv 7))) (pT2 pe_int pe_int))) (pw_or1 (qLt (pCall1 O11 hr (pv 8)) pe_int)))) (pss_one (ps_ret pe_bl)) pss_nil))))))))))
    (pss_one (ps_ret pe_bl))), ?_⟩
  refine ⟨.ref a, rfl, a, _, rfl, .inl hS, _, 6, rfl, 1, _, rfl, _, rfl, ?_, ?_, for_range (lo := 0) (n := _) (fun _ σ' H' => (∃ v1 v2 v3 v4 v5 v6 v7 v8 v9, σ' = [some (.ref a), v1, v2, v3, v4, v5, v6, v7, v8, v9]) ∧ Ex H H') ⟨⟨_, _, _, _, _, _, _, _, _, rfl⟩, Ex.refl H⟩ ?_ ?_⟩
  · split <;> (try split) <;> omega
  · split <;> (try split) <;> omega
  · rintro i σ' H0 hi ⟨⟨v1, v2, v3, v4, v5, v6, v7, v8, v9, rfl⟩, e0⟩
    -- state, under
    refine ⟨.ref a, rfl, .int (0 + i), rfl, a, ns, 0 + i, rfl, ex_l e0 hS, by omega, fun l H1 hl0 e1 st1 => ?_⟩
    have hl : H l = none := fresh_back e0 hl0
    have e01 := e0.trans e1
    refine ⟨.ref l, rfl, l, rfl, st1, fun vu H2 e2 st2 ⟨u, hu, iw, zw, zu⟩ => ?_⟩
    subst hu
    have e02 : Ex H H2 := e2.ex hl e01
    -- three numbers
    refine ⟨3, rfl, by decide, by decide, fun D hD => lc_range (lo := 0) (n := 3) (fun j H' => ∃ vs, H' D = some (.lst vs) ∧ vs.length = j ∧ (∀ v ∈ vs, ∃ x, ESz 4 x ∧ (Ty.rn K (u : Rat) x).is v H') ∧ Ex H H' ∧ Sta l H') ?_ ?_ ?_⟩
    · refine ⟨[], upd_same, rfl, (fun v hv => by cases hv), e02.trans (Ex.new hD), st2.ex (Ex.new hD)⟩
    · rintro j H' hj ⟨vs, hDv, hlen, hall, eH, st⟩
      have nDl : D ≠ l := fun q => by
        obtain ⟨_, _, h⟩ := st2
        rw [q, h] at hD
        cases hD
      have hDH : H D = none := fresh_back e02 hD
      refine ⟨rfl, .ref l, rfl, l, rfl, st, fun v H4 e4 s4 ⟨a', b', za, zb, hv⟩ => ⟨.int u, rfl, (⟨a', b', u⟩ : GA), v, .int u, ⟨za, zb, zu⟩, rfl, hv, rfl, fun y H5 e5 hy => ?_⟩⟩
      have h5 : H5 D = some (.lst vs) := e5 D _ (e4 D _ nDl hDv)
      have t5 : ExT H' (upd H5 D (.lst (vs ++ [y]))) := ((e4.toT st).trans (.of e5)).trans (ExT.updL h5)
      refine ⟨vs, h5, Nat.lt_of_le_of_lt (show vs.length ≤ 3 by omega) (by decide), vs ++ [y], upd_same, by rw [List.length_append, hlen]; rfl, fun v hv => ?_, Ex.mut ((e4.ex hl eH).trans e5) hDH, ?_⟩
      · rcases List.mem_append.mp hv with h | h
        · obtain ⟨x, zx, hx⟩ := hall v h
          exact ⟨x, zx, (Ty.rn K _ x).st _ _ _ t5 hx⟩
        · rw [List.mem_singleton.mp h]
          exact ⟨⟨a', b'⟩, ⟨za, zb⟩, (Ty.rn K _ _).st _ _ _ (ExT.updL h5) hy⟩
      · obtain ⟨p, f, h⟩ := s4.ex e5
        exact ⟨p, f, by rw [upd_ne nDl.symm]; exact h⟩
    rintro H3 ⟨vs, hDv, hlen, hall, eH, st⟩
    obtain ⟨p, q, r, rfl⟩ : ∃ p q r, vs = [p, q, r] := by
      match vs, hlen with
      | [p, q, r], _ => exact ⟨p, q, r, rfl⟩
    obtain ⟨x, zx, hx⟩ := hall p (by simp)
    obtain ⟨y, zy, hy⟩ := hall q (by simp)
    obtain ⟨w, zz, hw⟩ := hall r (by simp)
    refine ⟨D, [p, q, r], rfl, SqL.of hDv, rfl, p, [q, r], rfl, q, [r], rfl, r, [], rfl, rfl, ?_⟩
    have h4 : EvP (tVar 4) [some (.ref a), some (.int (0 + i)), some (.ref l), some (.int u), some p, some q, some r, v7, v8, v9] H3 (.rn K (u : Rat) x) := e_var rfl hx
    have h5 : EvP (tVar 5) [some (.ref a), some (.int (0 + i)), some (.ref l), some (.int u), some p, some q, some r, v7, v8, v9] H3 (.rn K (u : Rat) y) := e_var rfl hy
    have h6 : EvP (tVar 6) [some (.ref a), some (.int (0 + i)), some (.ref l), some (.int u), some p, some q, some r, v7, v8, v9] H3 (.rn K (u : Rat) w) := e_var rfl hw
    refine q_whenF (et_or (a := false) (b := false) (et_not (a := true) (t_B (u_groups iw zw zx zy zz h4 h5 h6))) fun _ => et_or (a := false) (b := false) (et_not (a := true) (t_B (u_back iw zw zx zy h4 h5))) fun _ => et_not (a := true) (t_B (u_back iw zw zy zz h5 h6))) fun H4 e4 => ?_
    have h4 := h4.mono e4
    have h5 := h5.mono e4
    have h6 := h6.mono e4
    refine q_whenF (et_or (a := false) (b := false) (et_not (a := true) (t_B (u_order iw zw zx zy zz h4 h5 h6))) fun _ => et_not (a := true) (t_B (u_order iw zw zy zz zx h5 h6 h4))) fun H5 e5 => ?_
    have eH5 := eH.trans (e4.trans e5)
    have st5 := st.ex (e4.trans e5)
    refine ⟨.ref l, rfl, l, rfl, st5, fun v7 H6 e6 st6 ⟨q7, zq, hq⟩ => ?_⟩
    exact turn_end (u := (u : Rat)) T iw zw zq rfl hq fun v H7 e7 => ⟨⟨_, _, _, _, _, _, _, _, _, rfl⟩, (e6.ex hl eH5).trans e7⟩
  · rintro σ' H' _
    exact k H'
end
end K16

set_option maxHeartbeats 0
set_option exponentiation.threshold 10000
/-! ### the end -/
namespace K16
open PySem PySem.Spec PyProof.Rows L2 Evl
theorem at_mk {K : PySem.W.Frag} {h : Heap} {mg : Str → Option Value} (X : K.In h) (G : h.Ns mainGlobals mg) {x : Str} {i : Nat} {fd : FuncData} (F : FunD K x x (defArgs (top i)) (defBody (top i)) (defScope (top i)) [] [] (He.ga K x) fd) (g : (He.Fa.glo x).ok K = true) : At K mg x i (He.ga K x) fd := ⟨F, He.glo_ok X G g⟩
theorem facts {P : Program} {w : World} {K : PySem.W.Frag} {h : Heap} {mg : Str → Option Value} {f : Addr} (X : K.In h) (G : h.Ns mainGlobals mg) (hfa : mg ("law" : Str) = some (.ref f)) (c : He.SaysX faList fnList [] [] exB w h K) :
    ∃ fd : FuncData, (∀ (s : Shared) (v : Value), BindsTo s fd ⟨[v], []⟩ [("script", v)]) ∧ ∀ base : Heap, K.In base → base.Ns mainGlobals mg → FnOk P w K mg base CX0 9 f fd ["script"] (spLaw K) := by
  have cd := c.t.d
  obtain ⟨b1, b23⟩ := He.ba c.more
  obtain ⟨b2, b3⟩ := He.ba b23
  obtain ⟨fd_divisor, F_divisor⟩ := cd.def_ 0 (d := d_divisor) rfl
  have A_divisor : At K mg "divisor" 8 (He.ga K "divisor") fd_divisor := at_mk X G F_divisor (cd.fact 0 (f := .glo "divisor") rfl)
  obtain ⟨fd_ratio, F_ratio⟩ := cd.def_ 1 (d := d_ratio) rfl
  have A_ratio : At K mg "ratio" 9 (He.ga K "ratio") fd_ratio := at_mk X G F_ratio (cd.fact 1 (f := .glo "ratio") rfl)
  obtain ⟨fd_plus, F_plus⟩ := cd.def_ 2 (d := d_plus) rfl
  have A_plus : At K mg "plus" 10 (He.ga K "plus") fd_plus := at_mk X G F_plus (cd.fact 2 (f := .glo "plus") rfl)
  obtain ⟨fd_negated, F_negated⟩ := cd.def_ 3 (d := d_negated) rfl
  have A_negated : At K mg "negated" 11 (He.ga K "negated") fd_negated := at_mk X G F_negated (cd.fact 3 (f := .glo "negated") rfl)
  obtain ⟨fd_minus, F_minus⟩ := cd.def_ 4 (d := d_minus) rfl
  have A_minus : At K mg "minus" 12 (He.ga K "minus") fd_minus := at_mk X G F_minus (cd.fact 4 (f := .glo "minus") rfl)
  obtain ⟨fd_times, F_times⟩ := cd.def_ 5 (d := d_times) rfl
  have A_times : At K mg "times" 13 (He.ga K "times") fd_times := at_mk X G F_times (cd.fact 5 (f := .glo "times") rfl)
  obtain ⟨fd_over, F_over⟩ := cd.def_ 6 (d := d_over) rfl
  have A_over : At K mg "over" 14 (He.ga K "over") fd_over := at_mk X G F_over (cd.fact 6 (f := .glo "over") rfl)
  obtain ⟨fd_sign_of, F_sign_of⟩ := cd.def_ 7 (d := d_sign_of) rfl
  have A_sign_of : At K mg "sign_of" 15 (He.ga K "sign_of") fd_sign_of := at_mk X G F_sign_of (cd.fact 7 (f := .glo "sign_of") rfl)
  obtain ⟨fd_size_of, F_size_of⟩ := cd.def_ 8 (d := d_size_of) rfl
  have A_size_of : At K mg "size_of" 16 (He.ga K "size_of") fd_size_of := at_mk X G F_size_of (cd.fact 8 (f := .glo "size_of") rfl)
  obtain ⟨fd_whole_root, F_whole_root⟩ := cd.def_ 9 (d := d_whole_root) rfl
  have A_whole_root : At K mg "whole_root" 17 (He.ga K "whole_root") fd_whole_root := at_mk X G F_whole_root (cd.fact 9 (f := .glo "whole_root") rfl)
  obtain ⟨fd_root_in, F_root_in⟩ := cd.def_ 10 (d := d_root_in) rfl
  have A_root_in : At K mg "root_in" 18 (He.ga K "root_in") fd_root_in := at_mk X G F_root_in (cd.fact 10 (f := .glo "root_in") rfl)
  obtain ⟨fd_is_whole, F_is_whole⟩ := cd.def_ 11 (d := d_is_whole) rfl
  have A_is_whole : At K mg "is_whole" 21 (He.ga K "is_whole") fd_is_whole := at_mk X G F_is_whole (cd.fact 11 (f := .glo "is_whole") rfl)
  obtain ⟨fd_is_fraction, F_is_fraction⟩ := cd.def_ 12 (d := d_is_fraction) rfl
  have A_is_fraction : At K mg "is_fraction" 22 (He.ga K "is_fraction") fd_is_fraction := at_mk X G F_is_fraction (cd.fact 12 (f := .glo "is_fraction") rfl)
  obtain ⟨fd_divisor_of, F_divisor_of⟩ := cd.def_ 13 (d := d_divisor_of) rfl
  have A_divisor_of : At K mg "divisor_of" 23 (He.ga K "divisor_of") fd_divisor_of := at_mk X G F_divisor_of (cd.fact 13 (f := .glo "divisor_of") rfl)
  obtain ⟨fd_is_number, F_is_number⟩ := cd.def_ 14 (d := d_is_number) rfl
  have A_is_number : At K mg "is_number" 24 (He.ga K "is_number") fd_is_number := at_mk X G F_is_number (cd.fact 14 (f := .glo "is_number") rfl)
  obtain ⟨fd_is_plain, F_is_plain⟩ := cd.def_ 15 (d := d_is_plain) rfl
  have A_is_plain : At K mg "is_plain" 25 (He.ga K "is_plain") fd_is_plain := at_mk X G F_is_plain (cd.fact 15 (f := .glo "is_plain") rfl)
  obtain ⟨fd_made, F_made⟩ := cd.def_ 16 (d := d_made) rfl
  have A_made : At K mg "made" 26 (He.ga K "made") fd_made := at_mk X G F_made (cd.fact 16 (f := .glo "made") rfl)
  obtain ⟨fd_root_of, F_root_of⟩ := cd.def_ 17 (d := d_root_of) rfl
  have A_root_of : At K mg "root_of" 27 (He.ga K "root_of") fd_root_of := at_mk X G F_root_of (cd.fact 17 (f := .glo "root_of") rfl)
  obtain ⟨fd_under_grown, F_under_grown⟩ := cd.def_ 18 (d := d_under_grown) rfl
  have A_under_grown : At K mg "under_grown" 28 (He.ga K "under_grown") fd_under_grown := at_mk X G F_under_grown (cd.fact 18 (f := .glo "under_grown") rfl)
  obtain ⟨fd_share_of, F_share_of⟩ := cd.def_ 19 (d := d_share_of) rfl
  have A_share_of : At K mg "share_of" 29 (He.ga K "share_of") fd_share_of := at_mk X G F_share_of (cd.fact 19 (f := .glo "share_of") rfl)
  obtain ⟨fd_root_plus, F_root_plus⟩ := cd.def_ 20 (d := d_root_plus) rfl
  have A_root_plus : At K mg "root_plus" 30 (He.ga K "root_plus") fd_root_plus := at_mk X G F_root_plus (cd.fact 20 (f := .glo "root_plus") rfl)
  obtain ⟨fd_root_negated, F_root_negated⟩ := cd.def_ 21 (d := d_root_negated) rfl
  have A_root_negated : At K mg "root_negated" 31 (He.ga K "root_negated") fd_root_negated := at_mk X G F_root_negated (cd.fact 21 (f := .glo "root_negated") rfl)
  obtain ⟨fd_root_minus, F_root_minus⟩ := cd.def_ 22 (d := d_root_minus) rfl
  have A_root_minus : At K mg "root_minus" 32 (He.ga K "root_minus") fd_root_minus := at_mk X G F_root_minus (cd.fact 22 (f := .glo "root_minus") rfl)
  obtain ⟨fd_root_times, F_root_times⟩ := cd.def_ 23 (d := d_root_times) rfl
  have A_root_times : At K mg "root_times" 33 (He.ga K "root_times") fd_root_times := at_mk X G F_root_times (cd.fact 23 (f := .glo "root_times") rfl)
  obtain ⟨fd_root_over, F_root_over⟩ := cd.def_ 24 (d := d_root_over) rfl
  have A_root_over : At K mg "root_over" 34 (He.ga K "root_over") fd_root_over := at_mk X G F_root_over (cd.fact 24 (f := .glo "root_over") rfl)
  obtain ⟨fd_root_sign, F_root_sign⟩ := cd.def_ 25 (d := d_root_sign) rfl
  have A_root_sign : At K mg "root_sign" 35 (He.ga K "root_sign") fd_root_sign := at_mk X G F_root_sign (cd.fact 25 (f := .glo "root_sign") rfl)
  obtain ⟨fd_root_less, F_root_less⟩ := cd.def_ 26 (d := d_root_less) rfl
  have A_root_less : At K mg "root_less" 36 (He.ga K "root_less") fd_root_less := at_mk X G F_root_less (cd.fact 26 (f := .glo "root_less") rfl)
  obtain ⟨fd_law_cell_at, F_law_cell_at⟩ := cd.def_ 27 (d := d_law_cell_at) rfl
  have A_law_cell_at : At K mg "_law_cell_at" 38 (He.ga K "_law_cell_at") fd_law_cell_at := at_mk X G F_law_cell_at (cd.fact 27 (f := .glo "_law_cell_at") rfl)
  obtain ⟨fd_law_state, F_law_state⟩ := cd.def_ 28 (d := d_law_state) rfl
  have A_law_state : At K mg "_law_state" 39 (He.ga K "_law_state") fd_law_state := at_mk X G F_law_state (cd.fact 28 (f := .glo "_law_state") rfl)
  obtain ⟨fd_law_take, F_law_take⟩ := cd.def_ 29 (d := d_law_take) rfl
  have A_law_take : At K mg "_law_take" 40 (He.ga K "_law_take") fd_law_take := at_mk X G F_law_take (cd.fact 29 (f := .glo "_law_take") rfl)
  obtain ⟨fd_law_divisor, F_law_divisor⟩ := cd.def_ 30 (d := d_law_divisor) rfl
  have A_law_divisor : At K mg "_law_divisor" 41 (He.ga K "_law_divisor") fd_law_divisor := at_mk X G F_law_divisor (cd.fact 30 (f := .glo "_law_divisor") rfl)
  obtain ⟨fd_law_ratio, F_law_ratio⟩ := cd.def_ 31 (d := d_law_ratio) rfl
  have A_law_ratio : At K mg "_law_ratio" 42 (He.ga K "_law_ratio") fd_law_ratio := at_mk X G F_law_ratio (cd.fact 31 (f := .glo "_law_ratio") rfl)
  obtain ⟨fd_law_times, F_law_times⟩ := cd.def_ 32 (d := d_law_times) rfl
  have A_law_times : At K mg "_law_times" 45 (He.ga K "_law_times") fd_law_times := at_mk X G F_law_times (cd.fact 32 (f := .glo "_law_times") rfl)
  obtain ⟨fd_law_small, F_law_small⟩ := cd.def_ 33 (d := d_law_small) rfl
  have A_law_small : At K mg "_law_small" 47 (He.ga K "_law_small") fd_law_small := at_mk X G F_law_small (cd.fact 33 (f := .glo "_law_small") rfl)
  obtain ⟨fd_law_open, F_law_open⟩ := cd.def_ 34 (d := d_law_open) rfl
  have A_law_open : At K mg "_law_open" 48 (He.ga K "_law_open") fd_law_open := at_mk X G F_law_open (cd.fact 34 (f := .glo "_law_open") rfl)
  obtain ⟨fd_law_as_number, F_law_as_number⟩ := cd.def_ 35 (d := d_law_as_number) rfl
  have A_law_as_number : At K mg "_law_as_number" 49 (He.ga K "_law_as_number") fd_law_as_number := at_mk X G F_law_as_number (cd.fact 35 (f := .glo "_law_as_number") rfl)
  obtain ⟨fd_law_both, F_law_both⟩ := cd.def_ 36 (d := d_law_both) rfl
  have A_law_both : At K mg "_law_both" 53 (He.ga K "_law_both") fd_law_both := at_mk X G F_law_both (cd.fact 36 (f := .glo "_law_both") rfl)
  obtain ⟨fd_law_groups, F_law_groups⟩ := cd.def_ 37 (d := d_law_groups) rfl
  have A_law_groups : At K mg "_law_groups" 54 (He.ga K "_law_groups") fd_law_groups := at_mk X G F_law_groups (cd.fact 37 (f := .glo "_law_groups") rfl)
  obtain ⟨fd_law_goes_back, F_law_goes_back⟩ := cd.def_ 38 (d := d_law_goes_back) rfl
  have A_law_goes_back : At K mg "_law_goes_back" 55 (He.ga K "_law_goes_back") fd_law_goes_back := at_mk X G F_law_goes_back (cd.fact 38 (f := .glo "_law_goes_back") rfl)
  obtain ⟨fd_law_in_order, F_law_in_order⟩ := cd.def_ 39 (d := d_law_in_order) rfl
  have A_law_in_order : At K mg "_law_in_order" 56 (He.ga K "_law_in_order") fd_law_in_order := at_mk X G F_law_in_order (cd.fact 39 (f := .glo "_law_in_order") rfl)
  obtain ⟨fd_law, F_law⟩ := cd.def_ 40 (d := d_law) rfl
  have A_law : At K mg "law" 57 (He.ga K "law") fd_law := at_mk X G F_law (cd.fact 40 (f := .glo "law") rfl)
  have T : Txt K mg (He.ga K "ZERO") (He.ga K "ONE") (He.ga K "NOUGHT") := ⟨He.free_ok X G (cd.fact 44 (f := .free "abs") rfl), He.free_ok X G (cd.fact 45 (f := .free "int") rfl), He.free_ok X G (cd.fact 46 (f := .free "isinstance") rfl), He.free_ok X G (cd.fact 47 (f := .free "len") rfl), He.free_ok X G (cd.fact 48 (f := .free "min") rfl), He.free_ok X G (cd.fact 49 (f := .free "max") rfl), He.free_ok X G (cd.fact 50 (f := .free "range") rfl), He.free_ok X G (cd.fact 51 (f := .free "bool") rfl), He.free_ok X G (cd.fact 52 (f := .free "tuple") rfl), He.glo_ok X G (cd.fact 41 (f := .glo "ZERO") rfl), He.glo_ok X G (cd.fact 42 (f := .glo "ONE") rfl), He.glo_ok X G (cd.fact 43 (f := .glo "NOUGHT") rfl), fun H => ⟨_, .int 0, .int 1, rfl, He.tupB_ok b1 H, rfl, rfl⟩, fun H => ⟨_, .int 1, .int 1, rfl, He.tupB_ok b2 H, rfl, rfl⟩, fun H => He.tupB_ok b3 H⟩
  have e := hfa.symm.trans A_law.g
  cases e
  refine ⟨fd_law, fun s v => FunD.bindsA (ps := ["script"]) A_law.F (fun _ _ _ _ _ _ us hl => match us, hl with | [_], _ => rfl) s [v] rfl, fun base _ _ => ?_⟩
  have O_divisor := ok_divisor (P := P) (wd := w) (base := base) T A_divisor
  have O_law_divisor := ok_law_divisor (P := P) (wd := w) (base := base) T A_law_divisor
  have O_ratio := ok_ratio (P := P) (wd := w) (base := base) O_divisor A_ratio
  have O_law_ratio := ok_law_ratio (P := P) (wd := w) (base := base) O_law_divisor A_law_ratio
  have O_plus := ok_plus (P := P) (wd := w) (base := base) O_ratio A_plus
  have O_negated := ok_negated (P := P) (wd := w) (base := base)  A_negated
  have O_minus := ok_minus (P := P) (wd := w) (base := base) O_plus O_negated A_minus
  have O_times := ok_times (P := P) (wd := w) (base := base) O_ratio A_times
  have O_over := ok_over (P := P) (wd := w) (base := base) O_ratio A_over
  have O_sign_of := ok_sign_of (P := P) (wd := w) (base := base) T A_sign_of
  have O_size_of := ok_size_of (P := P) (wd := w) (base := base) T A_size_of
  have O_whole_root := ok_whole_root (P := P) (wd := w) (base := base)  A_whole_root
  have O_root_in := ok_root_in (P := P) (wd := w) (base := base) O_whole_root A_root_in
  have O_is_whole := ok_is_whole (P := P) (wd := w) (base := base) T A_is_whole
  have O_divisor_of := ok_divisor_of (P := P) (wd := w) (base := base) T A_divisor_of
  have O_is_fraction := ok_is_fraction (P := P) (wd := w) (base := base) T O_is_whole O_divisor_of A_is_fraction
  have O_is_number := ok_is_number (P := P) (wd := w) (base := base) T O_is_fraction O_root_in O_size_of A_is_number
  have O_is_plain := ok_is_plain (P := P) (wd := w) (base := base) T A_is_plain
  have O_made := ok_made (P := P) (wd := w) (base := base) T O_root_in O_size_of O_plus O_times O_sign_of A_made
  have O_root_of := ok_root_of (P := P) (wd := w) (base := base) T O_made A_root_of
  have O_under_grown := ok_under_grown (P := P) (wd := w) (base := base) T O_times O_size_of A_under_grown
  have O_share_of := ok_share_of (P := P) (wd := w) (base := base) T O_root_in O_over O_size_of O_times O_sign_of A_share_of
  have O_root_plus := ok_root_plus (P := P) (wd := w) (base := base) T O_plus O_is_plain O_under_grown O_share_of A_root_plus
  have O_root_negated := ok_root_negated (P := P) (wd := w) (base := base) O_negated A_root_negated
  have O_root_minus := ok_root_minus (P := P) (wd := w) (base := base) O_root_plus O_root_negated A_root_minus
  have O_root_times := ok_root_times (P := P) (wd := w) (base := base) T O_plus O_is_plain O_under_grown O_share_of O_times O_size_of A_root_times
  have O_root_over := ok_root_over (P := P) (wd := w) (base := base) T O_minus O_times O_size_of O_root_times O_over O_under_grown O_negated A_root_over
  have O_root_sign := ok_root_sign (P := P) (wd := w) (base := base) T O_sign_of O_minus O_times O_size_of A_root_sign
  have O_root_less := ok_root_less (P := P) (wd := w) (base := base) O_root_sign O_root_minus A_root_less
  have O_law_cell_at := ok_law_cell_at (P := P) (wd := w) (base := base) T A_law_cell_at
  have O_law_state := ok_law_state (P := P) (wd := w) (base := base) O_law_cell_at A_law_state
  have O_law_take := ok_law_take (P := P) (wd := w) (base := base)  A_law_take
  have O_law_small := ok_law_small (P := P) (wd := w) (base := base) O_law_ratio O_law_take A_law_small
  have O_law_open := ok_law_open (P := P) (wd := w) (base := base) O_law_take A_law_open
  have O_law_times := ok_law_times (P := P) (wd := w) (base := base) O_law_ratio A_law_times
  have O_law_as_number := ok_law_as_number (P := P) (wd := w) (base := base) T O_law_times A_law_as_number
  have O_law_both := ok_law_both (P := P) (wd := w) (base := base) O_law_take O_law_small A_law_both
  have O_law_groups := ok_law_groups (P := P) (wd := w) (base := base) O_root_plus O_root_times A_law_groups
  have O_law_goes_back := ok_law_goes_back (P := P) (wd := w) (base := base) O_root_minus O_root_plus O_root_sign O_root_times O_root_over O_made O_is_number A_law_goes_back
  have O_law_in_order := ok_law_in_order (P := P) (wd := w) (base := base) O_root_less O_root_sign O_root_minus O_root_plus O_root_times A_law_in_order
  exact ok_law (P := P) (wd := w) (base := base) T O_law_state O_law_open O_law_as_number O_law_both O_law_groups O_law_goes_back O_law_in_order O_law_small O_root_of O_root_times O_root_sign A_law
end K16

open PySem PySem.W PySem.Calls PyProof.Rows
set_option maxRecDepth 100000 in
set_option maxHeartbeats 0 in
theorem PySem.Challenge.cw_hingedraw_k16_whole_numbers_of_one_field_holds : PySem.Challenge.rw_hingedraw_k16_whole_numbers_of_one_field.Holds := by
  w_on; o_law
  refine HandSHeadRun.head_any (r := OpenLaw.row PySem.Challenge.rw_hingedraw_k16_whole_numbers_of_one_field) (q := view (OpenLaw.row PySem.Challenge.rw_hingedraw_k16_whole_numbers_of_one_field).prog [57]) (H := K16.hk) (ob := K16.ob) (M := 4000) (loose := K16.loose1 ++ K16.loose2) (d := HandSHeadRun.topDef (OpenLaw.row PySem.Challenge.rw_hingedraw_k16_whole_numbers_of_one_field).prog 57) (kwd := []) K16.ob_eq
    (by kernel_rfl) (fun s => by kernel_rfl) K16.run (by kernel_rfl) (by kernel_rfl) (by kernel_rfl) (by rfl) (by first | assumption | decide +kernel) (by decide +kernel) ⟨rfl, rfl, rfl, rfl, rfl, by decide +kernel⟩ ?hw ?hc
  case hw => w_witness2
  case hc =>
    refine L2.walk_ofE (l := PySem.Challenge.rw_hingedraw_k16_whole_numbers_of_one_field) (n := 63) (k := 9) (x := "script") (CX := L2.CX0) rfl (by decide) (by kernel_rfl) ⟨rfl, by decide, by decide⟩ ?F (fun _ _ _ _ z => z)
    intro w mg fa h Y G hmg0
    obtain ⟨K, KX, c⟩ := Y
    have hmg : mg ("law" : PySem.Str) = some (.ref fa) := by
      have e : (HandSHeadRun.topDef (OpenLaw.row PySem.Challenge.rw_hingedraw_k16_whole_numbers_of_one_field).prog 57).name = ("law" : PySem.Str) := by kernel_rfl
      rw [← e]
      exact hmg0
    obtain ⟨fd, hb, hF⟩ := K16.facts (P := (PySem.Challenge.rw_hingedraw_k16_whole_numbers_of_one_field).prog) (w := w) KX G hmg c
    exact ⟨K, fd, K16.spLaw K, KX, hb, fun H a ns hl _ hS => ⟨a, ns, rfl, hS, fun _ => rfl⟩, hF⟩

