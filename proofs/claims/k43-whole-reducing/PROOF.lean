import PyProof.Rows.All
import Wide.All
import OpenK.AllK
import Wide.FinOn
import KE.KStateDown
import Lean
import HandS.ForMost
import HandS.Flow
import HandS.More
import HandS.Wide
import HandS.IsInst
import HandS.TupAny
import HandS.Defaults
import HandS.Head0
import HandS.Head1
import HandS.Head2
import HandS.HeadEnd
import HandS.HeadHook1
import HandS.HeadHook2
import PySem.Challenge.RW_levelroads_k43_whole_reducing
set_option Elab.async false
set_option linter.all false
set_option maxRecDepth 100000
set_option maxHeartbeats 0
namespace K43
/-! Binary forms: leading, reduced forms, uniqueness, reduction steps. Plain mathematics. -/
abbrev F3 := Int × Int × Int
abbrev M4 := Int × Int × Int × Int
def led (f : F3) (m : M4) : F3 :=
  (f.1 * m.1 * m.1 + f.2.1 * m.1 * m.2.2.1 + f.2.2 * m.2.2.1 * m.2.2.1,
   2 * f.1 * m.1 * m.2.1 + f.2.1 * (m.1 * m.2.2.2 + m.2.1 * m.2.2.1) + 2 * f.2.2 * m.2.2.1 * m.2.2.2,
   f.1 * m.2.1 * m.2.1 + f.2.1 * m.2.1 * m.2.2.2 + f.2.2 * m.2.2.2 * m.2.2.2)
def mul (m n : M4) : M4 :=
  (m.1 * n.1 + m.2.1 * n.2.2.1, m.1 * n.2.1 + m.2.1 * n.2.2.2, m.2.2.1 * n.1 + m.2.2.2 * n.2.2.1, m.2.2.1 * n.2.1 + m.2.2.2 * n.2.2.2)
def det (m : M4) : Int := m.1 * m.2.2.2 - m.2.1 * m.2.2.1
def disc (f : F3) : Int := 4 * f.1 * f.2.2 - f.2.1 * f.2.1
def Pd (f : F3) : Prop := 0 < f.1 ∧ 0 < disc f
def Least (f : F3) : Prop := (-f.1 ≤ f.2.1 ∧ f.2.1 ≤ f.1 ∧ f.1 ≤ f.2.2) ∧ (0 ≤ f.2.1 ∨ (f.2.1 ≠ -f.1 ∧ f.1 ≠ f.2.2))
instance (f : F3) : Decidable (Least f) := by unfold Least; infer_instance
def idm : M4 := (1, 0, 0, 1)
def inv (m : M4) : M4 := (m.2.2.2, -m.2.1, -m.2.2.1, m.1)

theorem led_mul (f : F3) (m n : M4) : led (led f m) n = led f (mul m n) := by
  obtain ⟨a, b, c⟩ := f
  obtain ⟨p, q, r, s⟩ := m
  obtain ⟨x, y, z, w⟩ := n
  simp only [led, mul, Prod.mk.injEq]
  refine ⟨?_, ?_, ?_⟩ <;> grind
theorem led_id (f : F3) : led f idm = f := by
  obtain ⟨a, b, c⟩ := f
  simp only [led, idm, Prod.mk.injEq]
  refine ⟨?_, ?_, ?_⟩ <;> grind
theorem det_mul (m n : M4) : det (mul m n) = det m * det n := by
  obtain ⟨p, q, r, s⟩ := m
  obtain ⟨x, y, z, w⟩ := n
  simp only [det, mul]
  grind
theorem det_id : det idm = 1 := by decide
theorem det_inv (m : M4) : det (inv m) = det m := by
  obtain ⟨p, q, r, s⟩ := m
  simp only [det, inv]
  grind
theorem disc_led (f : F3) (m : M4) : disc (led f m) = det m * det m * disc f := by
  obtain ⟨a, b, c⟩ := f
  obtain ⟨p, q, r, s⟩ := m
  simp only [disc, led, det]
  grind
theorem mul_inv {m : M4} (h : det m = 1) : mul m (inv m) = idm := by
  obtain ⟨p, q, r, s⟩ := m
  simp only [det] at h
  simp only [mul, inv, idm, Prod.mk.injEq]
  refine ⟨?_, ?_, ?_, ?_⟩ <;> grind
theorem led_inv {f g : F3} {m : M4} (h : det m = 1) (e : led f m = g) : led g (inv m) = f := by
  rw [← e, led_mul, mul_inv h, led_id]
theorem sq_nn (x : Int) : 0 ≤ x * x := by
  rcases Int.le_total 0 x with h | h
  · exact Int.mul_nonneg h h
  · have := Int.mul_nonneg (Int.neg_nonneg_of_nonpos h) (Int.neg_nonneg_of_nonpos h)
    rwa [Int.neg_mul_neg] at this
theorem sq_pos {x : Int} (h : x ≠ 0) : 0 < x * x := by
  rcases Int.lt_or_gt_of_ne h with h | h
  · have := Int.mul_pos (Int.neg_pos_of_neg h) (Int.neg_pos_of_neg h)
    rwa [Int.neg_mul_neg] at this
  · exact Int.mul_pos h h
theorem val4 (a b c p r : Int) : 4 * a * (a * p * p + b * p * r + c * r * r) = (2 * a * p + b * r) * (2 * a * p + b * r) + (4 * a * c - b * b) * (r * r) := by grind
theorem val4' (a b c p r : Int) : 4 * c * (a * p * p + b * p * r + c * r * r) = (2 * c * r + b * p) * (2 * c * r + b * p) + (4 * a * c - b * b) * (p * p) := by grind
/-- c is above 0, too -/
theorem Pd.c {f : F3} (h : Pd f) : 0 < f.2.2 := by
  obtain ⟨a, b, c⟩ := f
  obtain ⟨h1, h2⟩ := h
  simp only [disc] at h1 h2 ⊢
  have := sq_nn b
  have h3 : 0 < 4 * a * c := by omega
  exact Int.pos_of_mul_pos_right (a := 4 * a) h3 (by omega) 
theorem Pd.led {f : F3} {m : M4} (h : Pd f) (hm : det m = 1) : Pd (led f m) := by
  have hd : disc (K43.led f m) = disc f := by rw [disc_led, hm]; simp
  refine ⟨?_, by rw [hd]; exact h.2⟩
  obtain ⟨a, b, c⟩ := f
  obtain ⟨p, q, r, s⟩ := m
  obtain ⟨h1, h2⟩ := h
  simp only [disc, det, K43.led] at h1 h2 hm ⊢
  have h4 := val4 a b c p r
  have hx := sq_nn (2 * a * p + b * r)
  have hp : 0 < 4 * a * (a * p * p + b * p * r + c * r * r) := by
    rw [h4]
    by_cases hr : r = 0
    · subst hr
      have hp0 : p ≠ 0 := by
        rintro rfl
        simp at hm
      have := sq_pos (x := 2 * a * p) (Int.mul_ne_zero (by omega) hp0)
      simp only [Int.mul_zero, Int.add_zero]
      exact this
    · have := Int.mul_pos h2 (sq_pos hr)
      omega
  exact Int.pos_of_mul_pos_right (a := 4 * a) hp (by omega)
/-! ### a least form's values -/
theorem abs_le_sq {a b : Int} (h1 : -a ≤ b) (h2 : b ≤ a) : b * b ≤ a * a := by
  have h3 : 0 ≤ (a - b) * (a + b) := Int.mul_nonneg (by omega) (by omega)
  grind
/-- a is the least value of a least form -/
theorem least_val {a b c p r : Int} (ha : 0 < a) (h1 : -a ≤ b) (h2 : b ≤ a) (h3 : a ≤ c) (hn : ¬ (p = 0 ∧ r = 0)) : a ≤ a * p * p + b * p * r + c * r * r := by
  -- |b p r| ≤ a |p r|, and p p + r r - |p r| ≥ 1
  have hb : ∀ x : Int, -a ≤ x → x ≤ a → ∀ y : Int, -(a * y.natAbs) ≤ x * y := by
    intro x hx1 hx2 y
    rcases Int.le_total 0 y with hy | hy
    · have e : (y.natAbs : Int) = y := by omega
      rw [e]
      have := Int.mul_nonneg (show 0 ≤ a + x by omega) hy
      grind
    · have e : (y.natAbs : Int) = -y := by omega
      rw [e]
      have := Int.mul_nonneg (show 0 ≤ a - x by omega) (show 0 ≤ -y by omega)
      grind
  have h4 := hb b h1 h2 (p * r)
  have h5 : c * r * r ≥ a * (r * r) := by
    have := Int.mul_nonneg (show 0 ≤ c - a by omega) (sq_nn r)
    grind
  -- the square sum
  have h6 : 1 + ((p * r).natAbs : Int) ≤ p * p + r * r := by
    have hpr : ∀ e : Int, (e = 1 ∨ e = -1) → 2 * (e * (p * r)) ≤ p * p + r * r := by
      intro e he
      have := sq_nn (p - e * r)
      rcases he with rfl | rfl
      · grind
      · grind
    have k1 := hpr 1 (.inl rfl)
    have k2 := hpr (-1) (.inr rfl)
    have k3 : 0 < p * p + r * r := by
      have := sq_nn p
      have := sq_nn r
      by_cases hp : p = 0
      · have hr : r ≠ 0 := fun z => hn ⟨hp, z⟩
        have := sq_pos hr
        omega
      · have := sq_pos hp
        omega
    generalize p * r = u at *
    generalize p * p + r * r = w at *
    omega
  have h7 := Int.mul_le_mul_of_nonneg_left h6 (Int.le_of_lt ha)
  have h8 : a * (1 + ((p * r).natAbs : Int)) = a + a * ((p * r).natAbs : Int) := by grind
  have h9 : a * (p * p + r * r) = a * p * p + a * (r * r) := by grind
  have h10 : b * (p * r) = b * p * r := by grind
  omega
/-- two least forms that a matrix leads one to the other -/
theorem Least.disc3 {a b c : Int} (h1 : -a ≤ b) (h2 : b ≤ a) (h3 : a ≤ c) (ha : 0 < a) : 3 * (a * a) ≤ 4 * a * c - b * b := by
  have := abs_le_sq h1 h2
  have h4 := Int.mul_nonneg (show 0 ≤ c - a by omega) (Int.le_of_lt ha)
  grind
theorem r_small {a b c p r : Int} (ha : 0 < a) (h1 : -a ≤ b) (h2 : b ≤ a) (h3 : a ≤ c) (e : a * p * p + b * p * r + c * r * r = a) : -1 ≤ r ∧ r ≤ 1 := by
  have h4 := val4 a b c p r
  rw [e] at h4
  have h5 := Least.disc3 h1 h2 h3 ha
  have h6 := sq_nn (2 * a * p + b * r)
  have h7 := Int.mul_le_mul_of_nonneg_right h5 (sq_nn r)
  have h8 : 3 * (a * a) * (r * r) ≤ 4 * a * a := by omega
  have h9 : (a * a) * (3 * (r * r) - 4) ≤ 0 := by grind
  have h10 : 0 < a * a := Int.mul_pos ha ha
  have h11 : 3 * (r * r) - 4 ≤ 0 := by
    rcases Int.lt_or_le 0 (3 * (r * r) - 4) with z | z
    · have := Int.mul_pos h10 z
      omega
    · exact z
  refine ⟨?_, ?_⟩
  · rcases Int.lt_or_le r (-1) with z | z
    · have := Int.mul_le_mul_of_nonneg_left (show 2 ≤ -r by omega) (show 0 ≤ -r by omega)
      have e2 : -r * -r = r * r := by grind
      omega
    · exact z
  · rcases Int.lt_or_le 1 r with z | z
    · have := Int.mul_le_mul_of_nonneg_left (show 2 ≤ r by omega) (show 0 ≤ r by omega)
      omega
    · exact z
theorem c_is_a {a b c p r : Int} (ha : 0 < a) (h1 : -a ≤ b) (h2 : b ≤ a) (h3 : a ≤ c) (hr : r = 1 ∨ r = -1) (e : a * p * p + b * p * r + c * r * r = a) : c = a := by
  have h0 : 0 ≤ a * p * p + b * p * r := by
    -- p (a p + b r)
    have hbr : -a ≤ b * r ∧ b * r ≤ a := by
      rcases hr with rfl | rfl
      · omega
      · omega
    generalize hx : b * r = x at hbr
    have e1 : a * p * p + b * p * r = p * (a * p + x) := by grind
    rw [e1]
    rcases Int.lt_trichotomy p 0 with hp | hp | hp
    · have : a * p ≤ a * (-1) := Int.mul_le_mul_of_nonneg_left (by omega) (by omega)
      have := Int.mul_nonneg (show 0 ≤ -p by omega) (show 0 ≤ -(a * p + x) by omega)
      grind
    · subst hp
      simp
    · have : a * 1 ≤ a * p := Int.mul_le_mul_of_nonneg_left (by omega) (by omega)
      exact Int.mul_nonneg (by omega) (by omega)
  have h4 : c * r * r = c := by
    rcases hr with rfl | rfl
    · omega
    · omega
  omega
theorem det_nz {p q r s : Int} (h : p * s - q * r = 1) : ¬ (p = 0 ∧ r = 0) := by
  rintro ⟨rfl, rfl⟩
  simp at h
theorem unit_of {p s : Int} (h : p * s = 1) : (p = 1 ∧ s = 1) ∨ (p = -1 ∧ s = -1) := by
  have hp : p = 1 ∨ p = -1 := by
    have : p.natAbs * s.natAbs = 1 := by rw [← Int.natAbs_mul, h]; rfl
    have := Nat.eq_one_of_mul_eq_one_right this
    omega
  rcases hp with rfl | rfl
  · left; omega
  · right; omega
/-- [8.3]: each form is alike to just one least form -/
theorem least_unique {f g : F3} {m : M4} (pf : Pd f) (lf : Least f) (lg : Least g) (hm : det m = 1) (e : led f m = g) : f = g := by
  have pg : Pd g := e ▸ pf.led hm
  have hinv := led_inv hm e
  have hd : disc g = disc f := by rw [← e, disc_led, hm]; simp
  obtain ⟨a, b, c⟩ := f
  obtain ⟨a', b', c'⟩ := g
  obtain ⟨p, q, r, s⟩ := m
  obtain ⟨ha, hda⟩ := pf
  obtain ⟨ha', hda'⟩ := pg
  obtain ⟨⟨l1, l2, l3⟩, l4⟩ := lf
  obtain ⟨⟨k1, k2, k3⟩, k4⟩ := lg
  simp only [led, inv, det, disc, Prod.mk.injEq] at *
  obtain ⟨e1, e2, e3⟩ := e
  obtain ⟨i1, i2, i3⟩ := hinv
  have n1 := det_nz hm
  have v1 := least_val (p := p) (r := r) ha l1 l2 l3 n1
  have n2 : ¬ (s = 0 ∧ -r = 0) := by
    rintro ⟨rfl, z⟩
    have : r = 0 := by omega
    subst this
    simp at hm
  have v2 := least_val (p := s) (r := -r) ha' k1 k2 k3 n2
  have ea : a' = a := by omega
  subst ea
  have hr := r_small ha l1 l2 l3 e1
  by_cases hr0 : r = 0
  · subst hr0
    have hps : p * s = 1 := by omega
    have hb : b' = b + 2 * (a' * (p * q)) := by
      have : b * (p * s + q * 0) = b := by rw [hps]; omega
      grind
    have ht : p * q = 0 := by
      generalize p * q = t at *
      rcases Int.lt_trichotomy t 0 with h | h | h
      · have := Int.mul_le_mul_of_nonneg_left (show t ≤ -1 by omega) (Int.le_of_lt ha)
        omega
      · exact h
      · have := Int.mul_le_mul_of_nonneg_left (show 1 ≤ t by omega) (Int.le_of_lt ha)
        omega
    rw [ht] at hb
    have hbb : b' = b := by omega
    subst hbb
    have : a' * (c' - c) = 0 := by grind
    have : c' - c = 0 := by
      rcases Int.mul_eq_zero.mp this with z | z
      · omega
      · exact z
    refine ⟨rfl, rfl, by omega⟩
  · have hr1 : r = 1 ∨ r = -1 := by omega
    have hc := c_is_a ha l1 l2 l3 hr1 e1
    have hr2 : -r = 1 ∨ -r = -1 := by omega
    have hc' := c_is_a ha k1 k2 k3 hr2 i1
    subst hc
    subst hc'
    have hbb : (b' - b) * (b' + b) = 0 := by grind
    rcases Int.mul_eq_zero.mp hbb with z | z
    · refine ⟨rfl, by omega, rfl⟩
    · refine ⟨rfl, by omega, rfl⟩
/-! ### the steps -/
def swp : M4 := (0, -1, 1, 0)
def trn (t : Int) : M4 := (1, t, 0, 1)
/-- the matrix of the step that is taken from a form that is not least -/
def stepM (f : F3) : M4 := if -f.1 < f.2.1 ∧ f.2.1 ≤ f.1 then swp else trn ((f.1 - f.2.1) / (2 * f.1))
def step (f : F3) : F3 := led f (stepM f)
theorem det_stepM (f : F3) : det (stepM f) = 1 := by
  unfold stepM
  split
  · decide
  · simp [det, trn]
theorem led_swp (f : F3) : led f swp = (f.2.2, -f.2.1, f.1) := by
  obtain ⟨a, b, c⟩ := f
  simp only [led, swp, Prod.mk.injEq]
  refine ⟨?_, ?_, ?_⟩ <;> grind
theorem led_trn (f : F3) (t : Int) : led f (trn t) = (f.1, f.2.1 + 2 * f.1 * t, f.1 * t * t + f.2.1 * t + f.2.2) := by
  obtain ⟨a, b, c⟩ := f
  simp only [led, trn, Prod.mk.injEq]
  refine ⟨?_, ?_, ?_⟩ <;> grind
theorem trn_in {a b : Int} (ha : 0 < a) : -a < b + 2 * a * ((a - b) / (2 * a)) ∧ b + 2 * a * ((a - b) / (2 * a)) ≤ a := by
  have h1 := Int.mul_ediv_add_emod (a - b) (2 * a)
  have h2 := Int.emod_nonneg (a - b) (show 2 * a ≠ 0 by omega)
  have h3 := Int.emod_lt_of_pos (a - b) (show 0 < 2 * a by omega)
  generalize (a - b) % (2 * a) = r at *
  generalize 2 * a * ((a - b) / (2 * a)) = z at *
  omega
/-- the step is the idle one just where the form is in -/
theorem part_zero {a b : Int} (ha : 0 < a) : (a - b) / (2 * a) = 0 ↔ (-a < b ∧ b ≤ a) := by
  constructor
  · intro h
    have := trn_in (b := b) ha
    rw [h] at this
    omega
  · intro h
    exact Int.ediv_eq_zero_of_lt (by omega) (by omega)
/-- a least form is reached within n steps -/
def reach : Nat → F3 → Prop
  | 0, f => Least f
  | n + 1, f => Least f ∨ reach n (step f)
theorem reach.least {f : F3} (h : Least f) : ∀ n, reach n f
  | 0 => h
  | _ + 1 => .inl h
theorem reach.mono : ∀ {n : Nat} {f : F3} (m : Nat), n ≤ m → reach n f → reach m f
  | 0, _, m, _, h => reach.least h m
  | n + 1, f, 0, l, _ => absurd l (by omega)
  | n + 1, f, m + 1, l, h => by
    rcases h with h | h
    · exact .inl h
    · exact .inr (reach.mono m (by omega) h)
theorem reach.next {n : Nat} {f : F3} (h : reach n f) (hl : ¬ Least f) : ∃ k, n = k + 1 ∧ reach k (step f) := by
  cases n with
  | zero => exact absurd h hl
  | succ k => exact ⟨k, rfl, h.resolve_left hl⟩
theorem step_in {a b c : Int} (h : -a < b ∧ b ≤ a) : step (a, b, c) = (c, -b, a) := by
  unfold step stepM
  rw [if_pos h, led_swp]
theorem step_out {a b c : Int} (h : ¬ (-a < b ∧ b ≤ a)) : step (a, b, c) = (a, b + 2 * a * ((a - b) / (2 * a)), a * ((a - b) / (2 * a)) * ((a - b) / (2 * a)) + b * ((a - b) / (2 * a)) + c) := by
  unfold step stepM
  rw [if_neg h, led_trn]
theorem step_pd {f : F3} (h : Pd f) : Pd (step f) := h.led (det_stepM f)
/-- in, and c at least a: at most one step -/
theorem reach_one {a b c : Int} (ha : 0 < a) (h1 : -a < b) (h2 : b ≤ a) (h3 : a ≤ c) : reach 1 (a, b, c) := by
  by_cases hl : Least (a, b, c)
  · exact .inl hl
  · refine .inr ?_
    rw [step_in ⟨h1, h2⟩]
    show Least _
    simp only [Least] at hl ⊢
    omega
/-- in, c below a, 2 c at least a: at most three steps -/
theorem reach_three {a b c : Int} (hc : 0 < c) (h1 : -a < b) (h2 : b ≤ a) (h3 : c < a) (h4 : a ≤ 2 * c) : reach 3 (a, b, c) := by
  refine .inr ?_
  rw [step_in ⟨h1, h2⟩]
  by_cases hi : -c < -b ∧ -b ≤ c
  · exact reach.mono 2 (by omega) (reach_one hc hi.1 hi.2 (by omega))
  · refine .inr ?_
    rw [step_out hi]
    by_cases hb : c ≤ b
    · have ht : (c - -b) / (2 * c) = 1 := by
        rw [Int.ediv_eq_iff_of_pos (by omega)]
        omega
      rw [ht]
      refine reach_one hc ?_ ?_ ?_ <;> omega
    · have ht : (c - -b) / (2 * c) = -1 := by
        rw [Int.ediv_eq_iff_of_pos (by omega)]
        omega
      rw [ht]
      refine reach_one hc ?_ ?_ ?_ <;> omega
theorem reach_in : ∀ (k : Nat) {a b c : Int}, Pd (a, b, c) → a < 2 ^ k → -a < b → b ≤ a → reach (2 * k + 3) (a, b, c)
  | 0, a, b, c, hp, hk, _, _ => by
    have := hp.1
    simp only at this
    omega
  | k + 1, a, b, c, hp, hk, h1, h2 => by
    have ha : 0 < a := hp.1
    have hc : 0 < c := hp.c
    by_cases h3 : a ≤ c
    · exact reach.mono _ (by omega) (reach_one ha h1 h2 h3)
    · by_cases h4 : a ≤ 2 * c
      · exact reach.mono _ (by omega) (reach_three hc h1 h2 (by omega) h4)
      · have hck : c < 2 ^ k := by
          rw [Int.pow_succ] at hk
          omega
        refine .inr ?_
        have hps := step_pd hp
        rw [step_in ⟨h1, h2⟩] at hps ⊢
        by_cases hi : -c < -b ∧ -b ≤ c
        · exact reach.mono _ (by omega) (reach_in k hps hck hi.1 hi.2)
        · have hp2 := step_pd hps
          refine reach.mono (n := 2 * k + 3 + 1) _ (by omega) (Or.inr ?_)
          rw [step_out hi] at hp2 ⊢
          have hin := trn_in (b := -b) hc
          exact reach_in k hp2 hck hin.1 hin.2
/-- every form reaches a least one -/
theorem reach_all {f : F3} {k : Nat} (hp : Pd f) (hk : f.1 < 2 ^ k) : reach (2 * k + 4) f := by
  obtain ⟨a, b, c⟩ := f
  have ha : 0 < a := hp.1
  by_cases hi : -a < b ∧ b ≤ a
  · exact reach.mono _ (by omega) (reach_in k hp hk hi.1 hi.2)
  · refine .inr ?_
    have hps := step_pd hp
    rw [step_out hi] at hps ⊢
    have hin := trn_in (b := b) ha
    exact reach_in k hps hk hin.1 hin.2
/-! ### sizes -/
/-- all three integers within n -/
def Wi (n : Int) (f : F3) : Prop := f.1 ≤ n ∧ -n ≤ f.2.1 ∧ f.2.1 ≤ n ∧ f.2.2 ≤ n
theorem step_wi {n : Int} {f : F3} (hp : Pd f) (h : Wi n f) (hl : ¬ Least f) : Wi n (step f) := by
  have hps := step_pd hp
  obtain ⟨a, b, c⟩ := f
  have ha : 0 < a := hp.1
  have hc : 0 < c := hp.c
  obtain ⟨w1, w2, w3, w4⟩ := h
  simp only at w1 w2 w3 w4
  by_cases hi : -a < b ∧ b ≤ a
  · rw [step_in hi]
    simp only [Wi]
    omega
  · have hd : disc (step (a, b, c)) = disc (a, b, c) := by
      unfold step
      rw [disc_led, det_stepM]
      simp
    rw [step_out hi] at hd hps ⊢
    have hin := trn_in (b := b) ha
    generalize (b + 2 * a * ((a - b) / (2 * a))) = b' at *
    generalize (a * ((a - b) / (2 * a)) * ((a - b) / (2 * a)) + b * ((a - b) / (2 * a)) + c) = c' at *
    simp only [disc] at hd
    have hb2 : b' * b' ≤ b * b := by
      have h1 := abs_le_sq (a := a) (b := b') (by omega) (by omega)
      have h2 : a * a ≤ b * b := by
        rcases Int.le_total 0 b with z | z
        · exact abs_le_sq (a := b) (b := a) (by omega) (by omega)
        · have := abs_le_sq (a := -b) (b := a) (by omega) (by omega)
          rwa [Int.neg_mul_neg] at this
      omega
    have hcc : c' ≤ c := by
      have h5 : 4 * a * c' ≤ 4 * a * c := by omega
      exact Int.le_of_mul_le_mul_left h5 (by omega)
    simp only [Wi]
    omega
theorem abs_of_sq {x n : Int} (hn : 0 ≤ n) (h : x * x ≤ n * n) : -n ≤ x ∧ x ≤ n := by
  refine ⟨?_, ?_⟩
  · rcases Int.lt_or_le x (-n) with z | z
    · have := Int.mul_self_lt_mul_self hn (show n < -x by omega)
      rw [Int.neg_mul_neg] at this
      omega
    · exact z
  · rcases Int.lt_or_le n x with z | z
    · have := Int.mul_self_lt_mul_self hn z
      omega
    · exact z
/-- the integers of a matrix between two forms within n are within 2 n -/
theorem mat_wi {n : Int} {f : F3} {m : M4} (hp : Pd f) (h : Wi n f) (h2 : Wi n (led f m)) (hm : det m = 1) : (-(2 * n) ≤ m.1 ∧ m.1 ≤ 2 * n) ∧ (-(2 * n) ≤ m.2.1 ∧ m.2.1 ≤ 2 * n) ∧ (-(2 * n) ≤ m.2.2.1 ∧ m.2.2.1 ≤ 2 * n) ∧ (-(2 * n) ≤ m.2.2.2 ∧ m.2.2.2 ≤ 2 * n) := by
  have hg : Pd (led f m) := hp.led hm
  have hgc := hg.c
  have hga := hg.1
  have hc := hp.c
  obtain ⟨a, b, c⟩ := f
  obtain ⟨p, q, r, s⟩ := m
  obtain ⟨ha, hd⟩ := hp
  obtain ⟨w1, w2, w3, w4⟩ := h
  obtain ⟨v1, v2, v3, v4⟩ := h2
  simp only [led, disc] at *
  have hn : 0 < n := by omega
  have core : ∀ x y v : Int, v = a * x * x + b * x * y + c * y * y → v ≤ n → 0 < v → (-(2 * n) ≤ x ∧ x ≤ 2 * n) ∧ (-(2 * n) ≤ y ∧ y ≤ 2 * n) := by
    intro x y v e hv h0
    have k1 := val4 a b c x y
    have k2 := val4' a b c x y
    rw [← e] at k1 k2
    have s1 := sq_nn (2 * a * x + b * y)
    have s2 := sq_nn (2 * c * y + b * x)
    have up : ∀ u : Int, 0 < u → u ≤ n → 4 * u * v ≤ (2 * n) * (2 * n) := by
      intro u hu hun
      have h5 : u * v ≤ n * n := Int.mul_le_mul hun hv (by omega) (by omega)
      grind
    have dd : ∀ z : Int, z * z ≤ (4 * a * c - b * b) * (z * z) := by
      intro z
      have := Int.mul_le_mul_of_nonneg_right (show 1 ≤ 4 * a * c - b * b by omega) (sq_nn z)
      omega
    have a1 := up a ha w1
    have a2 := up c hc w4
    have d1 := dd x
    have d2 := dd y
    exact ⟨abs_of_sq (by omega) (by omega), abs_of_sq (by omega) (by omega)⟩
  have c1 := core p r _ rfl v1 hga
  have c2 := core q s _ rfl v4 hgc
  exact ⟨c1.1, c2.1, c1.2, c2.2⟩
end K43
namespace K43
open PySem PySem.Spec PyProof.Rows L2
/-! ### a chain of three comparisons, as a test -/
section
variable {X : Cx} {a b c d : Expr} {ta tb tc td : TE} {pos : Pos}
def tChain3 (r r' r2 : R2) (ta tb tc td : TE) : TE := fun σ H Q => ta σ H fun x H1 => tb σ H1 fun y H2 => r x y H2 fun z H3 => ∃ k, z = .bl k ∧
  (if k = true then tc σ H3 fun u H4 => r' y u H4 fun z2 H5 => ∃ k2, z2 = .bl k2 ∧ (if k2 = true then td σ H5 fun w H6 => r2 u w H6 Q else Q (.bl false) H5) else Q (.bl false) H3)
theorem pt_chain3 {op op' op2 : CmpOp} {r r' r2 : R2} (ho : OpR X (compareOp op) r) (ho' : OpR X (compareOp op') r') (ho2 : OpR X (compareOp op2) r2) (ha : PE X a ta) (hb : PE X b tb) (hc : PE X c tc) (hd : PE X d td)
    (hm : lastMarks [op, op', op2] [b, c, d] = false := by with_unfolding_all rfl) : PT X (.Compare a [op, op', op2] [b, c, d] pos) (tTest (tChain3 r r' r2 ta tb tc td)) := by
  refine ⟨fun pins s σ H Q I h => ?_⟩
  refine isTrue_chain (thn (ha.run pins s σ H _ I h) fun v s1 ⟨x, H1, I1, r1, q1⟩ => test_link (thn (hb.run pins s1 σ H1 _ I1 q1) fun u s2 ⟨y, H2, I2, r2, q2⟩ =>
    thn (ho pins s2 σ H2 x y v u _ I2 r1 r2 q2) fun d1 s3 ⟨z, H3, I3, r3, k, e, q3⟩ => ?_)) hm
  subst e
  cases r3
  refine wpAny_truthy_bool ?_
  cases k with
  | false =>
    obtain ⟨k', e', q'⟩ := q3
    cases e'
    exact ite_ff ⟨H3, I3, q'⟩
  | true =>
    refine ite_tt (test_link (thn (hc.run pins s3 σ H3 _ I3 q3) fun w1 s4 ⟨z4, H4, I4, r4, q4⟩ => thn (ho' pins s4 σ H4 y z4 u w1 _ I4 r2 r4 q4) fun d2 s5 ⟨z5, H5, I5, r5, k5, e5, q5⟩ => ?_))
    subst e5
    cases r5
    refine wpAny_truthy_bool ?_
    cases k5 with
    | false =>
      obtain ⟨k', e', q'⟩ := q5
      cases e'
      exact ite_ff ⟨H5, I5, q'⟩
    | true =>
      refine ite_tt (test_last (thn (hd.run pins s5 σ H5 _ I5 q5) fun w' s6 ⟨z', H6, I6, r6, q6⟩ => thn (ho2 pins s6 σ H6 z4 z' w1 w' _ I6 r4 r6 q6) fun d' s7 ⟨z2, H7, I7, r7, k2, e2, q7⟩ => ?_))
      subst e2
      cases r7
      exact wpAny_truthy_bool ⟨H7, I7, q7⟩
end
/-! ### readings that end in one value and leave the heap -/
def Bd (n : Nat) (x : Int) : Prop := x.natAbs < 2 ^ n
instance (n : Nat) (x : Int) : Decidable (Bd n x) := inferInstanceAs (Decidable (x.natAbs < 2 ^ n))
theorem Bd.mono {n m : Nat} {x : Int} (h : Bd n x) (l : n ≤ m) : Bd m x := Nat.lt_of_lt_of_le h (Nat.pow_le_pow_right (by decide) l)
theorem Bd.of {n : Nat} {x : Int} {m : Int} (h : -m ≤ x ∧ x ≤ m) (hm : m < 2 ^ n) : Bd n x := by
  have e : ((2 ^ n : Nat) : Int) = 2 ^ n := Int.natCast_pow 2 n
  unfold Bd
  omega
theorem two_pow_pos (n : Nat) : 0 < 2 ^ n := Nat.pow_pos (by decide)
theorem Bd.add {n m : Nat} {x y : Int} (hn : 0 < n) (hm : 0 < m) (a : Bd n x) (b : Bd m y) : Bd (n + m) (x + y) := by
  have h1 : (x + y).natAbs ≤ x.natAbs + y.natAbs := Int.natAbs_add_le x y
  have h2 : 2 ^ n + 2 ^ m ≤ 2 ^ (n + m) := by
    rw [Nat.pow_add]
    have a1 : 2 ≤ 2 ^ n := Nat.pow_le_pow_right (n := 2) (by decide) hn
    have a2 : 2 ≤ 2 ^ m := Nat.pow_le_pow_right (n := 2) (by decide) hm
    generalize 2 ^ n = p at *
    generalize 2 ^ m = q at *
    obtain ⟨p', rfl⟩ : ∃ p', p = p' + 2 := ⟨p - 2, by omega⟩
    obtain ⟨q', rfl⟩ : ∃ q', q = q' + 2 := ⟨q - 2, by omega⟩
    rw [Nat.add_mul, Nat.mul_add]
    omega
  unfold Bd at *
  omega
theorem Bd.neg {n : Nat} {x : Int} (a : Bd n x) : Bd n (-x) := by
  unfold Bd at *
  rw [Int.natAbs_neg]
  exact a
theorem Bd.sub {n m : Nat} {x y : Int} (hn : 0 < n) (hm : 0 < m) (a : Bd n x) (b : Bd m y) : Bd (n + m) (x - y) := by
  rw [Int.sub_eq_add_neg]
  exact Bd.add hn hm a b.neg
theorem Bd.mul {n m : Nat} {x y : Int} (a : Bd n x) (b : Bd m y) : Bd (n + m) (x * y) := wide_lt a b

def PV (t : TE) (σ : L2.St) (H : Hp) (v : V) : Prop := ∀ Q : VK, Q v H → t σ H Q
def PB (t : TE) (σ : L2.St) (H : Hp) (x : Int) (n : Nat) : Prop := Bd n x ∧ 0 < n ∧ PV t σ H (.int x)
def PVa (t : TA) (σ : L2.St) (H : Hp) (vs : List V) : Prop := ∀ Q : List V → Hp → Prop, Q vs H → t σ H Q
def PTv (t : TT) (σ : L2.St) (H : Hp) (b : Bool) : Prop := ∀ Q : Bool → Hp → Prop, Q b H → t σ H Q
section
variable {K : PySem.W.Frag} {σ : L2.St} {H : Hp} {ta tb tc td te : TE} {v w : V} {x y z u : Int} {n m : Nat}
theorem PB.pv (h : PB te σ H x n) : PV te σ H (.int x) := h.2.2
theorem pv_var {i : Nat} (h : σ[i]? = some (some v)) : PV (tVar i) σ H v := fun _ q => ⟨v, h, q⟩
theorem pv_c : PV (tC v) σ H v := fun _ q => q
theorem pb_var {i : Nat} (h : σ[i]? = some (some (.int x))) (b : Bd n x) (hn : 0 < n) : PB (tVar i) σ H x n := ⟨b, hn, pv_var h⟩
theorem pb_c (b : Bd 128 x) : PB (tC (.int x)) σ H x 128 := ⟨b, by decide, pv_c⟩
theorem pv_op0 {g : Int → Int → V} (ha : PV ta σ H (.int x)) (hb : PV tb σ H (.int y)) : PV (tOp (rI0 g) ta tb) σ H (g x y) := fun Q q => ha _ (hb _ ⟨x, y, rfl, rfl, q⟩)
theorem pv_op {C : Int → Int → Prop} {g : Int → Int → V} (ha : PV ta σ H (.int x)) (hb : PV tb σ H (.int y)) (hc : C x y) : PV (tOp (rI C g) ta tb) σ H (g x y) := fun Q q => ha _ (hb _ ⟨x, y, rfl, rfl, hc, q⟩)
theorem pv_neg (ha : PV ta σ H (.int x)) : PV (tUn (rU fun i => .int (-i)) ta) σ H (.int (-x)) := fun Q q => ha _ ⟨x, rfl, q⟩
theorem pb_add (ha : PB ta σ H x n) (hb : PB tb σ H y m) : PB (tOp (rI0 fun i j => .int (i + j)) ta tb) σ H (x + y) (n + m) := ⟨Bd.add ha.2.1 hb.2.1 ha.1 hb.1, Nat.add_pos_left ha.2.1 m, pv_op0 ha.pv hb.pv⟩
theorem pb_sub (ha : PB ta σ H x n) (hb : PB tb σ H y m) : PB (tOp (rI0 fun i j => .int (i - j)) ta tb) σ H (x - y) (n + m) := ⟨Bd.sub ha.2.1 hb.2.1 ha.1 hb.1, Nat.add_pos_left ha.2.1 m, pv_op0 ha.pv hb.pv⟩
theorem pb_neg (ha : PB ta σ H x n) : PB (tUn (rU fun i => .int (-i)) ta) σ H (-x) n := ⟨ha.1.neg, ha.2.1, pv_neg ha.pv⟩
theorem pb_mul (ha : PB ta σ H x n) (hb : PB tb σ H y m) (h : n + m ≤ 1000000) : PB (tOp (rI CMulW fun i j => .int (i * j)) ta tb) σ H (x * y) (n + m) :=
  ⟨Bd.mul ha.1 hb.1, Nat.add_pos_left ha.2.1 m, pv_op ha.pv hb.pv (wide_mul ha.1 hb.1 ha.2.1 hb.2.1 h)⟩
theorem pv_ixT {p : Addr} {xs : List V} {i : Int} (ha : PV ta σ H (.ref p)) (hi : PV tb σ H (.int i)) (hS : SqT K H p xs) (e : atI xs i = some v) : PV (tOp (rIxT K) ta tb) σ H v := fun Q q => ha _ (hi _ ⟨p, xs, i, v, rfl, rfl, hS, e, q⟩)
theorem pv_ixL {p : Addr} {xs : List V} {i : Int} (ha : PV ta σ H (.ref p)) (hi : PV tb σ H (.int i)) (hS : SqL K H p xs) (e : atI xs i = some v) : PV (tOp (rIxL K) ta tb) σ H v := fun Q q => ha _ (hi _ ⟨p, xs, i, v, rfl, rfl, hS, e, q⟩)
theorem pb_ixT {i : Nat} {j : Int} {p : Addr} {xs : List V} (h : σ[i]? = some (some (.ref p))) (hS : SqT K H p xs) (e : atI xs j = some (.int x)) (b : Bd n x) (hn : 0 < n) : PB (tOp (rIxT K) (tVar i) (tC (.int j))) σ H x n := ⟨b, hn, pv_ixT (pv_var h) pv_c hS e⟩
theorem pva_nil : PVa tNil σ H [] := fun _ q => q
theorem pva_cons {t : TA} {vs : List V} (h : PV te σ H v) (hr : PVa t σ H vs) : PVa (tCons te t) σ H (v :: vs) := fun _ q => h _ (hr _ q)
theorem pv_call {sp : Sp} {E : XK} {t : TA} {vs : List V} (ha : PVa t σ H vs) (h : ∀ Q : VK, Q v H → sp (vs ++ []) H Q E) : PV (tCall sp [] E t) σ H v := fun Q q => ha _ (h Q q)
theorem pv_callB {r : List V → Hp → VK → Prop} {t : TA} {vs : List V} (ha : PVa t σ H vs) (h : ∀ Q : VK, Q v H → r vs H Q) : PV (tCB r t) σ H v := fun Q q => ha _ (h Q q)
theorem pv_and {b c : Bool} (ha : PV ta σ H (.bl b)) (hb : b = true → PV tb σ H (.bl c)) : PV (tAndV ta tb) σ H (.bl (b && c)) := fun Q q => ha _ ⟨b, rfl, by
  cases b with
  | true => exact iteT (hb rfl _ q)
  | false => exact iteF q⟩
theorem pv_or {b c : Bool} (ha : PV ta σ H (.bl b)) (hb : b = false → PV tb σ H (.bl c)) : PV (tOrV ta tb) σ H (.bl (b || c)) := fun Q q => ha _ ⟨b, rfl, by
  cases b with
  | true => exact iteT q
  | false => exact iteF (hb rfl _ q)⟩
theorem pv_not {b : Bool} (ha : PV ta σ H (.bl b)) : PV (tNotV ta) σ H (.bl (!b)) := fun Q q => ha _ ⟨b, rfl, q⟩
theorem pv_is (h : PV te σ H v) (e : v = w) : PV te σ H w := e ▸ h
theorem pv_eq (ha : PV ta σ H v) (hb : PV tb σ H w) (h : scal v w = true) : PV (tOp rEq ta tb) σ H (.bl (decide (v = w))) := fun Q q => ha _ (hb _ ⟨h, q⟩)
theorem pv_ne (ha : PV ta σ H v) (hb : PV tb σ H w) (h : scal v w = true) : PV (tOp rNe ta tb) σ H (.bl (!decide (v = w))) := fun Q q => ha _ (hb _ ⟨h, q⟩)
theorem pt_test {b : Bool} (h : PV te σ H (.bl b)) : PTv (tTest te) σ H b := fun Q q => h _ ⟨b, rfl, q⟩
theorem pt_B {b : Bool} (h : PV te σ H (.bl b)) : PTv (tB te) σ H b := fun Q q => h _ ⟨b, rfl, q⟩
theorem ptv_not {t : TT} {b : Bool} (h : PTv t σ H b) : PTv (tNot t) σ H (!b) := fun Q q => h _ q
theorem ptv_and {t s : TT} {b c : Bool} (h : PTv t σ H b) (h2 : b = true → PTv s σ H c) : PTv (tAnd t s) σ H (b && c) := fun Q q => h _ (by
  cases b with
  | true => exact iteT (h2 rfl _ q)
  | false => exact iteF q)
theorem ptv_or {t s : TT} {b c : Bool} (h : PTv t σ H b) (h2 : b = false → PTv s σ H c) : PTv (tOr t s) σ H (b || c) := fun Q q => h _ (by
  cases b with
  | true => exact iteT q
  | false => exact iteF (h2 rfl _ q))
theorem ptv_is {t : TT} {b c : Bool} (h : PTv t σ H b) (e : b = c) : PTv t σ H c := e ▸ h
theorem pv_chain {g g' : Int → Int → Bool} (ha : PV ta σ H (.int x)) (hb : PV tb σ H (.int y)) (hc : PV tc σ H (.int z)) :
    PV (tChain (rI0 fun i j => .bl (g i j)) (rI0 fun i j => .bl (g' i j)) ta tb tc) σ H (.bl (g x y && g' y z)) := fun Q q => ha _ (hb _ ⟨x, y, rfl, rfl, g x y, rfl, by
  cases e : g x y with
  | true =>
    rw [e] at q
    exact iteT (hc _ ⟨y, z, rfl, rfl, q⟩)
  | false =>
    rw [e] at q
    exact iteF q⟩)
theorem pv_chain3 {g g' g2 : Int → Int → Bool} (ha : PV ta σ H (.int x)) (hb : PV tb σ H (.int y)) (hc : PV tc σ H (.int z)) (hd : PV td σ H (.int u)) :
    PV (tChain3 (rI0 fun i j => .bl (g i j)) (rI0 fun i j => .bl (g' i j)) (rI0 fun i j => .bl (g2 i j)) ta tb tc td) σ H (.bl (g x y && (g' y z && g2 z u))) := fun Q q => ha _ (hb _ ⟨x, y, rfl, rfl, g x y, rfl, by
  cases e : g x y with
  | true =>
    rw [e] at q
    refine iteT (hc _ ⟨y, z, rfl, rfl, g' y z, rfl, ?_⟩)
    cases e2 : g' y z with
    | true =>
      rw [e2] at q
      exact iteT (hd _ ⟨z, u, rfl, rfl, q⟩)
    | false =>
      rw [e2] at q
      exact iteF q
  | false =>
    rw [e] at q
    exact iteF q⟩)
/-! statements -/
variable {D : Ends} {tu tz : TS}
theorem r_ret (h : PV te σ H v) (q : D.rt v H) : tRet te D σ H := h _ q
theorem r_set {i : Nat} (h : PV te σ H v) (q : tz D (σ.set i (some v)) H) : tSeq (tAsg te (gName i)) tz D σ H := h _ q
theorem r_par {i j : Nat} (ha : PV ta σ H v) (hb : PV tb σ H w) (q : tz D ((σ.set i (some v)).set j (some w)) H) : tSeq (tPar i j (tCons ta (tCons tb tNil))) tz D σ H := ha _ (hb _ ⟨v, w, rfl, q⟩)
theorem r_if {t : TT} {tw : TS} {b : Bool} (h : PTv t σ H b) (h1 : b = true → tu { D with nx := tz D } σ H) (h2 : b = false → tw { D with nx := tz D } σ H) : tSeq (tIfS t tu tw) tz D σ H := h _ (by
  cases b with
  | true => exact iteT (h1 rfl)
  | false => exact iteF (h2 rfl))
theorem r_un4 {i a0 a1 a2 a3 : Nat} {p : Addr} {v0 v1 v2 v3 : V} (h : σ[i]? = some (some (.ref p))) (hS : SqT K H p [v0, v1, v2, v3])
    (q : tz D ((((σ.set a0 (some v0)).set a1 (some v1)).set a2 (some v2)).set a3 (some v3)) H) : tSeq (tAsg (tVar i) (gTup K 4 (gCons (gName a0) (gCons (gName a1) (gCons (gName a2) (gCons (gName a3) gNil)))))) tz D σ H :=
  ⟨_, h, p, _, rfl, hS, rfl, v0, _, rfl, v1, _, rfl, v2, _, rfl, v3, _, rfl, rfl, q⟩
theorem r_un3 {i a0 a1 a2 : Nat} {p : Addr} {v0 v1 v2 : V} (h : σ[i]? = some (some (.ref p))) (hS : SqT K H p [v0, v1, v2])
    (q : tz D (((σ.set a0 (some v0)).set a1 (some v1)).set a2 (some v2)) H) : tSeq (tAsg (tVar i) (gTup K 3 (gCons (gName a0) (gCons (gName a1) (gCons (gName a2) gNil))))) tz D σ H :=
  ⟨_, h, p, _, rfl, hS, rfl, v0, _, rfl, v1, _, rfl, v2, _, rfl, rfl, q⟩
theorem r_retTup {t : TA} {vs : List V} (h : PVa t σ H vs) (hl : vs.length ≤ sizeLine) (q : ∀ p, H p = none → D.rt (.ref p) (upd H p (.tup vs))) : tRet (tTup t) D σ H := h _ ⟨hl, q⟩
end
/-! ### heaps -/
theorem same_upd {H : Hp} {p : Addr} {o : HO} (h : H p = none) : Same H (upd H p o) := fun b x e => by
  rw [upd_ne (ne_of_none e h)]
  exact e
theorem _root_.L2.Same.sqt {K : PySem.W.Frag} {H H' : Hp} {a : Addr} {xs : List V} (e : Same H H') (h : SqT K H a xs) : SqT K H' a xs := by
  rcases h with (h | ⟨o, h⟩) | h
  · exact .inl (.inl (e _ _ h))
  · exact .inl (.inr ⟨o, e _ _ h⟩)
  · exact .inr h
theorem sqt_of {K : PySem.W.Frag} {H : Hp} {a : Addr} {xs : List V} (h : H a = some (.tup xs)) : SqT K H a xs := .inl (.inl h)
theorem sql_of {K : PySem.W.Frag} {H : Hp} {a : Addr} {xs : List V} (h : H a = some (.lst xs)) : SqL K H a xs := .inl (.inl h)
theorem tyx_tup {K : PySem.W.Frag} {H : Hp} {a : Addr} {xs : List V} (h : SqT K H a xs) : TyX K H (.ref a) (.type "tuple") := by
  rcases h with (h | ⟨o, h⟩) | ⟨o, its, n, h, c, _⟩
  · exact .base (.tup h)
  · exact .fTuple h
  · exact .kTuple h c
/-! ### forms and matrices as values -/
abbrev fV (f : F3) : List V := [.int f.1, .int f.2.1, .int f.2.2]
abbrev mV (m : M4) : List V := [.int m.1, .int m.2.1, .int m.2.2.1, .int m.2.2.2]
def fB (f : F3) : Prop := Bd 1000 f.1 ∧ Bd 1000 f.2.1 ∧ Bd 1000 f.2.2
def mB (m : M4) : Prop := Bd 1000 m.1 ∧ Bd 1000 m.2.1 ∧ Bd 1000 m.2.2.1 ∧ Bd 1000 m.2.2.2
/-! ### == of such data -/
theorem dp_f {K : PySem.W.Frag} {H : Hp} {a : Addr} {f : F3} (h : SqT K H a (fV f)) : Dp K H (.ref a) (.tuple [.int f.1, .int f.2.1, .int f.2.2]) := .tup h (.cons (.int _) (.cons (.int _) (.cons (.int _) .nil)))
theorem sh_f (f : F3) : SeqAt.shaped (.tuple [.int f.1, .int f.2.1, .int f.2.2]) = true := by
  rfl
theorem eqv_f (f g : F3) : PyData.eqv (.tuple [.int f.1, .int f.2.1, .int f.2.2]) (.tuple [.int g.1, .int g.2.1, .int g.2.2]) = decide (f = g) := by
  obtain ⟨a, b, c⟩ := f
  obtain ⟨x, y, z⟩ := g
  rw [Bool.eq_iff_iff]
  simp [PyData.eqv, PyData.eqvAll]
end K43
namespace K43
open PySem PySem.Spec PyProof.Rows L2
/-! ### the text: the defs of the top -/
def top (i : Nat) : Stmt := PySem.Challenge.pw_levelroads_k43_whole_reducing.main.body.getD i (.Pass ⟨0, 0, 0, 0⟩)
abbrev s_is_whole : Stmt := top 5
abbrev s_is_integer : Stmt := top 6
abbrev s_measure_in : Stmt := top 11
abbrev s_is_form : Stmt := top 12
abbrev s_require_form : Stmt := top 13
abbrev s_is_turn : Stmt := top 14
abbrev s_value_at : Stmt := top 15
abbrev s_led_by : Stmt := top 16
abbrev s_product_of : Stmt := top 17
abbrev s_is_least : Stmt := top 18
abbrev s_reducing : Stmt := top 19
abbrev s_is_reduced : Stmt := top 20
abbrev s_reduced_form : Stmt := top 21
abbrev s_reducing_matrix : Stmt := top 22
abbrev s_is_reducing : Stmt := top 23
abbrev s_law_dice : Stmt := top 25
abbrev s_law_roll : Stmt := top 26
abbrev s_law_pick : Stmt := top 27
abbrev s_law_bf_led : Stmt := top 28
abbrev s_law_bf_product : Stmt := top 29
abbrev s_law_bf_matrix : Stmt := top 30
abbrev s_law_bf_is_least : Stmt := top 31
abbrev s_law_bf_least : Stmt := top 32
abbrev s_law_bf_drawn : Stmt := top 33
abbrev s_law_bf_keepers : Stmt := top 34
abbrev s_law_is_right_matrix : Stmt := top 35
abbrev s_law_near : Stmt := top 36
abbrev s_law_right : Stmt := top 37
abbrev s_law : Stmt := top 38
theorem c_is_whole : FnScope ["value"] ["value"] (defScope s_is_whole) := ⟨rfl, rfl, rfl, by decide +kernel, rfl, by decide +kernel, by decide +kernel⟩
theorem c_is_integer : FnScope ["value"] ["value"] (defScope s_is_integer) := ⟨rfl, rfl, rfl, by decide +kernel, rfl, by decide +kernel, by decide +kernel⟩
theorem c_measure_in : FnScope ["form"] ["form"] (defScope s_measure_in) := ⟨rfl, rfl, rfl, by decide +kernel, rfl, by decide +kernel, by decide +kernel⟩
theorem c_is_form : FnScope ["value", "entry"] ["value"] (defScope s_is_form) := ⟨rfl, rfl, rfl, by decide +kernel, rfl, by decide +kernel, by decide +kernel⟩
theorem c_require_form : FnScope ["value"] ["value"] (defScope s_require_form) := ⟨rfl, rfl, rfl, by decide +kernel, rfl, by decide +kernel, by decide +kernel⟩
theorem c_is_turn : FnScope ["value", "entry"] ["value"] (defScope s_is_turn) := ⟨rfl, rfl, rfl, by decide +kernel, rfl, by decide +kernel, by decide +kernel⟩
theorem c_value_at : FnScope ["form", "x", "y"] ["form", "x", "y"] (defScope s_value_at) := ⟨rfl, rfl, rfl, by decide +kernel, rfl, by decide +kernel, by decide +kernel⟩
theorem c_led_by : FnScope ["form", "matrix", "p", "q", "r", "s", "middle"] ["form", "matrix"] (defScope s_led_by) := ⟨rfl, rfl, rfl, by decide +kernel, rfl, by decide +kernel, by decide +kernel⟩
theorem c_product_of : FnScope ["one", "other", "a", "b", "c", "d", "p", "q", "r", "s"] ["one", "other"] (defScope s_product_of) := ⟨rfl, rfl, rfl, by decide +kernel, rfl, by decide +kernel, by decide +kernel⟩
theorem c_is_least : FnScope ["form", "a", "b", "c"] ["form"] (defScope s_is_least) := ⟨rfl, rfl, rfl, by decide +kernel, rfl, by decide +kernel, by decide +kernel⟩
theorem c_reducing : FnScope ["form", "here", "matrix", "a", "b", "c", "step"] ["form"] (defScope s_reducing) := ⟨rfl, rfl, rfl, by decide +kernel, rfl, by decide +kernel, by decide +kernel⟩
theorem c_is_reduced : FnScope ["form"] ["form"] (defScope s_is_reduced) := ⟨rfl, rfl, rfl, by decide +kernel, rfl, by decide +kernel, by decide +kernel⟩
theorem c_reduced_form : FnScope ["form"] ["form"] (defScope s_reduced_form) := ⟨rfl, rfl, rfl, by decide +kernel, rfl, by decide +kernel, by decide +kernel⟩
theorem c_reducing_matrix : FnScope ["form"] ["form"] (defScope s_reducing_matrix) := ⟨rfl, rfl, rfl, by decide +kernel, rfl, by decide +kernel, by decide +kernel⟩
theorem c_is_reducing : FnScope ["form", "value"] ["form", "value"] (defScope s_is_reducing) := ⟨rfl, rfl, rfl, by decide +kernel, rfl, by decide +kernel, by decide +kernel⟩
theorem c_law_dice : FnScope ["_law_script", "_law_spot", "_law_cell", "_law_left"] ["_law_script", "_law_spot"] (defScope s_law_dice) := ⟨rfl, rfl, rfl, by decide +kernel, rfl, by decide +kernel, by decide +kernel⟩
theorem c_law_roll : FnScope ["_law_dice_here", "_law_total", "_law_found", "_law_one", "_law_two"] ["_law_dice_here", "_law_total"] (defScope s_law_roll) := ⟨rfl, rfl, rfl, by decide +kernel, rfl, by decide +kernel, by decide +kernel⟩
theorem c_law_pick : FnScope ["_law_dice_here", "_law_items"] ["_law_dice_here", "_law_items"] (defScope s_law_pick) := ⟨rfl, rfl, rfl, by decide +kernel, rfl, by decide +kernel, by decide +kernel⟩
theorem c_law_bf_led : FnScope ["_law_form", "_law_matrix", "_law_a", "_law_b", "_law_c", "_law_p", "_law_q", "_law_r", "_law_s", "_law_cross", "_law_double"] ["_law_form", "_law_matrix"] (defScope s_law_bf_led) := ⟨rfl, rfl, rfl, by decide +kernel, rfl, by decide +kernel, by decide +kernel⟩
theorem c_law_bf_product : FnScope ["_law_one", "_law_other", "_law_a", "_law_b", "_law_c", "_law_d", "_law_p", "_law_q", "_law_r", "_law_s"] ["_law_one", "_law_other"] (defScope s_law_bf_product) := ⟨rfl, rfl, rfl, by decide +kernel, rfl, by decide +kernel, by decide +kernel⟩
theorem c_law_bf_matrix : FnScope ["_law_dice_here", "_law_most", "_law_found", "_law_turn", "_law_part", "_law_step"] ["_law_dice_here", "_law_most"] (defScope s_law_bf_matrix) := ⟨rfl, rfl, rfl, by decide +kernel, rfl, by decide +kernel, by decide +kernel⟩
theorem c_law_bf_is_least : FnScope ["_law_form", "_law_a", "_law_b", "_law_c"] ["_law_form"] (defScope s_law_bf_is_least) := ⟨rfl, rfl, rfl, by decide +kernel, rfl, by decide +kernel, by decide +kernel⟩
theorem c_law_bf_least : FnScope ["_law_form", "_law_here", "_law_matrix", "_law_turn", "_law_part", "_law_step"] ["_law_form"] (defScope s_law_bf_least) := ⟨rfl, rfl, rfl, by decide +kernel, rfl, by decide +kernel, by decide +kernel⟩
theorem c_law_bf_drawn : FnScope ["_law_dice_here", "_law_high", "_law_a", "_law_b"] ["_law_dice_here", "_law_high"] (defScope s_law_bf_drawn) := ⟨rfl, rfl, rfl, by decide +kernel, rfl, by decide +kernel, by decide +kernel⟩
theorem c_law_bf_keepers : FnScope ["_law_form", "_law_found", "_law_some", "_law_p", "_law_q", "_law_r", "_law_s", "_law_matrix"] ["_law_form"] (defScope s_law_bf_keepers) := ⟨rfl, rfl, rfl, by decide +kernel, rfl, by decide +kernel, by decide +kernel⟩
theorem c_law_is_right_matrix : FnScope ["_law_form", "_law_least", "_law_value", "_law_entry"] ["_law_form", "_law_least", "_law_value"] (defScope s_law_is_right_matrix) := ⟨rfl, rfl, rfl, by decide +kernel, rfl, by decide +kernel, by decide +kernel⟩
theorem c_law_near : FnScope ["_law_dice_here", "_law_matrix", "_law_least", "_law_entry", "_law_found", "_law_keeper", "_law_at"] ["_law_dice_here", "_law_matrix", "_law_least"] (defScope s_law_near) := ⟨rfl, rfl, rfl, by decide +kernel, rfl, by decide +kernel, by decide +kernel⟩
theorem c_law_right : FnScope ["_law_dice_here", "_law_form", "_law_least", "_law_turn", "_law_here", "_law_matrix", "_law_value"] ["_law_dice_here"] (defScope s_law_right) := ⟨rfl, rfl, rfl, by decide +kernel, rfl, by decide +kernel, by decide +kernel⟩
theorem c_law : FnScope ["_law_script", "_law_spot", "_law_dice_here", "_law_told"] ["_law_script"] (defScope s_law) := ⟨rfl, rfl, rfl, by decide +kernel, rfl, by decide +kernel, by decide +kernel⟩
abbrev FnP (K : PySem.W.Frag) (x : Str) (st : Stmt) (f : Addr) (fd : FuncData) : Prop := FunD K x x (defArgs st) (defBody st) (defScope st) [] [] f fd
/-- what the top has left -/
structure Txt (K : PySem.W.Frag) (mg : Str → Option Value) where
  a_is_whole : Addr
  d_is_whole : FuncData
  F_is_whole : FnP K "is_whole" s_is_whole a_is_whole d_is_whole
  g_is_whole : mg "is_whole" = some (.ref a_is_whole)
  b_is_whole : Binds K d_is_whole ["value"] []
  a_is_integer : Addr
  d_is_integer : FuncData
  F_is_integer : FnP K "is_integer" s_is_integer a_is_integer d_is_integer
  g_is_integer : mg "is_integer" = some (.ref a_is_integer)
  b_is_integer : Binds K d_is_integer ["value"] []
  a_measure_in : Addr
  d_measure_in : FuncData
  F_measure_in : FnP K "measure_in" s_measure_in a_measure_in d_measure_in
  g_measure_in : mg "measure_in" = some (.ref a_measure_in)
  b_measure_in : Binds K d_measure_in ["form"] []
  a_is_form : Addr
  d_is_form : FuncData
  F_is_form : FnP K "is_form" s_is_form a_is_form d_is_form
  g_is_form : mg "is_form" = some (.ref a_is_form)
  b_is_form : Binds K d_is_form ["value"] []
  a_require_form : Addr
  d_require_form : FuncData
  F_require_form : FnP K "require_form" s_require_form a_require_form d_require_form
  g_require_form : mg "require_form" = some (.ref a_require_form)
  b_require_form : Binds K d_require_form ["value"] []
  a_is_turn : Addr
  d_is_turn : FuncData
  F_is_turn : FnP K "is_turn" s_is_turn a_is_turn d_is_turn
  g_is_turn : mg "is_turn" = some (.ref a_is_turn)
  b_is_turn : Binds K d_is_turn ["value"] []
  a_value_at : Addr
  d_value_at : FuncData
  F_value_at : FnP K "value_at" s_value_at a_value_at d_value_at
  g_value_at : mg "value_at" = some (.ref a_value_at)
  b_value_at : Binds K d_value_at ["form", "x", "y"] []
  a_led_by : Addr
  d_led_by : FuncData
  F_led_by : FnP K "led_by" s_led_by a_led_by d_led_by
  g_led_by : mg "led_by" = some (.ref a_led_by)
  b_led_by : Binds K d_led_by ["form", "matrix"] []
  a_product_of : Addr
  d_product_of : FuncData
  F_product_of : FnP K "product_of" s_product_of a_product_of d_product_of
  g_product_of : mg "product_of" = some (.ref a_product_of)
  b_product_of : Binds K d_product_of ["one", "other"] []
  a_is_least : Addr
  d_is_least : FuncData
  F_is_least : FnP K "is_least" s_is_least a_is_least d_is_least
  g_is_least : mg "is_least" = some (.ref a_is_least)
  b_is_least : Binds K d_is_least ["form"] []
  a_reducing : Addr
  d_reducing : FuncData
  F_reducing : FnP K "reducing" s_reducing a_reducing d_reducing
  g_reducing : mg "reducing" = some (.ref a_reducing)
  b_reducing : Binds K d_reducing ["form"] []
  a_is_reduced : Addr
  d_is_reduced : FuncData
  F_is_reduced : FnP K "is_reduced" s_is_reduced a_is_reduced d_is_reduced
  g_is_reduced : mg "is_reduced" = some (.ref a_is_reduced)
  b_is_reduced : Binds K d_is_reduced ["form"] []
  a_reduced_form : Addr
  d_reduced_form : FuncData
  F_reduced_form : FnP K "reduced_form" s_reduced_form a_reduced_form d_reduced_form
  g_reduced_form : mg "reduced_form" = some (.ref a_reduced_form)
  b_reduced_form : Binds K d_reduced_form ["form"] []
  a_reducing_matrix : Addr
  d_reducing_matrix : FuncData
  F_reducing_matrix : FnP K "reducing_matrix" s_reducing_matrix a_reducing_matrix d_reducing_matrix
  g_reducing_matrix : mg "reducing_matrix" = some (.ref a_reducing_matrix)
  b_reducing_matrix : Binds K d_reducing_matrix ["form"] []
  a_is_reducing : Addr
  d_is_reducing : FuncData
  F_is_reducing : FnP K "is_reducing" s_is_reducing a_is_reducing d_is_reducing
  g_is_reducing : mg "is_reducing" = some (.ref a_is_reducing)
  b_is_reducing : Binds K d_is_reducing ["form", "value"] []
  a_law_dice : Addr
  d_law_dice : FuncData
  F_law_dice : FnP K "_law_dice" s_law_dice a_law_dice d_law_dice
  g_law_dice : mg "_law_dice" = some (.ref a_law_dice)
  b_law_dice : Binds K d_law_dice ["_law_script", "_law_spot"] []
  a_law_roll : Addr
  d_law_roll : FuncData
  F_law_roll : FnP K "_law_roll" s_law_roll a_law_roll d_law_roll
  g_law_roll : mg "_law_roll" = some (.ref a_law_roll)
  b_law_roll : Binds K d_law_roll ["_law_dice_here", "_law_total"] []
  a_law_pick : Addr
  d_law_pick : FuncData
  F_law_pick : FnP K "_law_pick" s_law_pick a_law_pick d_law_pick
  g_law_pick : mg "_law_pick" = some (.ref a_law_pick)
  b_law_pick : Binds K d_law_pick ["_law_dice_here", "_law_items"] []
  a_law_bf_led : Addr
  d_law_bf_led : FuncData
  F_law_bf_led : FnP K "_law_bf_led" s_law_bf_led a_law_bf_led d_law_bf_led
  g_law_bf_led : mg "_law_bf_led" = some (.ref a_law_bf_led)
  b_law_bf_led : Binds K d_law_bf_led ["_law_form", "_law_matrix"] []
  a_law_bf_product : Addr
  d_law_bf_product : FuncData
  F_law_bf_product : FnP K "_law_bf_product" s_law_bf_product a_law_bf_product d_law_bf_product
  g_law_bf_product : mg "_law_bf_product" = some (.ref a_law_bf_product)
  b_law_bf_product : Binds K d_law_bf_product ["_law_one", "_law_other"] []
  a_law_bf_matrix : Addr
  d_law_bf_matrix : FuncData
  F_law_bf_matrix : FnP K "_law_bf_matrix" s_law_bf_matrix a_law_bf_matrix d_law_bf_matrix
  g_law_bf_matrix : mg "_law_bf_matrix" = some (.ref a_law_bf_matrix)
  b_law_bf_matrix : Binds K d_law_bf_matrix ["_law_dice_here", "_law_most"] []
  a_law_bf_is_least : Addr
  d_law_bf_is_least : FuncData
  F_law_bf_is_least : FnP K "_law_bf_is_least" s_law_bf_is_least a_law_bf_is_least d_law_bf_is_least
  g_law_bf_is_least : mg "_law_bf_is_least" = some (.ref a_law_bf_is_least)
  b_law_bf_is_least : Binds K d_law_bf_is_least ["_law_form"] []
  a_law_bf_least : Addr
  d_law_bf_least : FuncData
  F_law_bf_least : FnP K "_law_bf_least" s_law_bf_least a_law_bf_least d_law_bf_least
  g_law_bf_least : mg "_law_bf_least" = some (.ref a_law_bf_least)
  b_law_bf_least : Binds K d_law_bf_least ["_law_form"] []
  a_law_bf_drawn : Addr
  d_law_bf_drawn : FuncData
  F_law_bf_drawn : FnP K "_law_bf_drawn" s_law_bf_drawn a_law_bf_drawn d_law_bf_drawn
  g_law_bf_drawn : mg "_law_bf_drawn" = some (.ref a_law_bf_drawn)
  b_law_bf_drawn : Binds K d_law_bf_drawn ["_law_dice_here", "_law_high"] []
  a_law_bf_keepers : Addr
  d_law_bf_keepers : FuncData
  F_law_bf_keepers : FnP K "_law_bf_keepers" s_law_bf_keepers a_law_bf_keepers d_law_bf_keepers
  g_law_bf_keepers : mg "_law_bf_keepers" = some (.ref a_law_bf_keepers)
  b_law_bf_keepers : Binds K d_law_bf_keepers ["_law_form"] []
  a_law_is_right_matrix : Addr
  d_law_is_right_matrix : FuncData
  F_law_is_right_matrix : FnP K "_law_is_right_matrix" s_law_is_right_matrix a_law_is_right_matrix d_law_is_right_matrix
  g_law_is_right_matrix : mg "_law_is_right_matrix" = some (.ref a_law_is_right_matrix)
  b_law_is_right_matrix : Binds K d_law_is_right_matrix ["_law_form", "_law_least", "_law_value"] []
  a_law_near : Addr
  d_law_near : FuncData
  F_law_near : FnP K "_law_near" s_law_near a_law_near d_law_near
  g_law_near : mg "_law_near" = some (.ref a_law_near)
  b_law_near : Binds K d_law_near ["_law_dice_here", "_law_matrix", "_law_least"] []
  a_law_right : Addr
  d_law_right : FuncData
  F_law_right : FnP K "_law_right" s_law_right a_law_right d_law_right
  g_law_right : mg "_law_right" = some (.ref a_law_right)
  b_law_right : Binds K d_law_right ["_law_dice_here"] []
  a_law : Addr
  d_law : FuncData
  F_law : FnP K "law" s_law a_law d_law
  g_law : mg "law" = some (.ref a_law)
  b_law : Binds K d_law ["_law_script"] []
  n_isinstance : mg "isinstance" = none
  n_int : mg "int" = none
  n_bool : mg "bool" = none
  n_tuple : mg "tuple" = none
  n_len : mg "len" = none
  n_all : mg "all" = none
  n_max : mg "max" = none
  n_abs : mg "abs" = none
  n_range : mg "range" = none
  n_min : mg "min" = none
  n_list : mg "list" = none
  n_str : mg "str" = none
  GREAT : ∃ t, mg "GREAT" = some (.int 1000000000000000000000000000000000000000000000000000000000000 t)
  FORM_SIZE : ∃ t, mg "FORM_SIZE" = some (.int 3 t)
  MATRIX_SIZE : ∃ t, mg "MATRIX_SIZE" = some (.int 4 t)
  a_IDLE : Addr
  g_IDLE : mg "IDLE" = some (.ref a_IDLE)
  t_IDLE : ∀ H, SqT K H a_IDLE [.int 1, .int 0, .int 0, .int 1]
end K43
local macro_rules | `(tactic| walk_at "pb") => `(tactic| (repeat' first
  | exact K43.pb_var rfl (by assumption) (by decide)
  | exact K43.pb_c (by decide)
  | exact K43.pb_ixT rfl (by assumption) rfl (by assumption) (by decide)
  | apply K43.pb_mul
  | apply K43.pb_add
  | apply K43.pb_sub
  | apply K43.pb_neg
  | decide))
namespace K43
open PySem PySem.Spec PyProof.Rows L2
/-! ### plain defs -/
def flatE : V → Bool
  | .non => true
  | .bl _ => true
  | .int _ => true
  | .str _ => true
  | _ => false
def wholeV : V → Bool
  | .int _ => true
  | _ => false
theorem tyx_flat {K : PySem.W.Frag} {H : Hp} {x : V} (h : flatE x = true) : ∃ t : String, TyX K H x (.type t) ∧ kitB t "int" = some (t == "int" || t == "bool") ∧ kitB t "bool" = some (t == "bool") ∧ wholeV x = ((t == "int" || t == "bool") && !(t == "bool")) := by
  cases x with
  | non => exact ⟨"NoneType", .base .non, by decide +kernel, by decide +kernel, rfl⟩
  | bl b => exact ⟨"bool", .base (.bl b), by decide +kernel, by decide +kernel, rfl⟩
  | int b => exact ⟨"int", .base (.int b), by decide +kernel, by decide +kernel, rfl⟩
  | str b => exact ⟨"str", .base (.str b), by decide +kernel, by decide +kernel, rfl⟩
  | _ => cases h
/-- isinstance(e, T) -/
theorem pv_isi {K : PySem.W.Frag} {σ : L2.St} {H : Hp} {te : TE} {x : V} {t c : String} {b : Bool} (h : PV te σ H x) (ty : TyX K H x (.type t)) (k : kitB t c = some b) : PV (tCB (rIsi K) (tCons te (tCons (tC (.ty c)) tNil))) σ H (.bl b) :=
  pv_callB (pva_cons h (pva_cons pv_c pva_nil)) fun _ q => ⟨x, .ty c, _, _, b, rfl, .ty c, ty, kit_ty k, q⟩
section
variable {P : Program} {w : World} {K : PySem.W.Frag} {mg : Str → Option Value} {base : Heap} (T : Txt K mg)
def sp_is_whole : Sp := fun vs H Q _ => ∃ x, vs = [x] ∧ flatE x = true ∧ Q (.bl (wholeV x)) H
theorem ok_is_whole : FnOk P w K mg base CX0 1 T.a_is_whole T.d_is_whole ["value"] sp_is_whole := by
  refine T.F_is_whole.ok c_is_whole (fun vs H Q E h => ?_) (fun cdv A outer s H vs Q E hr h => ?_)
  · obtain ⟨x, rfl, _⟩ := h
    rfl
  · obtain ⟨x, rfl, hx, q⟩ := h
    refine ⟨_, (pss_one (ps_ret (pe_and (pe_callB (id := "isinstance") (r := rIsi K) call_isi (by rfl) T.n_isinstance (by decide +kernel) (pa_cons (pv 0) (pa_cons (pe_bltn (v := .ty "int") (by rfl) T.n_int PyProof.Rows.boot_int rfl) pa_nil))) (pe_one (pe_not (pe_callB (id := "isinstance") (r := rIsi K) call_isi (by rfl) T.n_isinstance (by decide +kernel) (pa_cons (pv 0) (pa_cons (pe_bltn (v := .ty "bool") (by rfl) T.n_bool PyProof.Rows.boot_bool rfl) pa_nil)))))))), ?_⟩
    obtain ⟨t, ty, k1, k2, e⟩ := tyx_flat (K := K) (H := H) hx
    rw [e] at q
    exact r_ret (pv_and (pv_isi (pv_var rfl) ty k1) fun _ => pv_not (pv_isi (pv_var rfl) ty k2)) q
abbrev G60 : Int := 1000000000000000000000000000000000000000000000000000000000000
def sp_is_integer : Sp := fun vs H Q _ => ∃ i : Int, vs = [.int i] ∧ Q (.bl (decide (-G60 < i) && decide (i < G60))) H
theorem ok_is_integer : FnOk P w K mg base CX0 2 T.a_is_integer T.d_is_integer ["value"] sp_is_integer := by
  refine T.F_is_integer.ok c_is_integer (fun vs H Q E h => ?_) (fun cdv A outer s H vs Q E hr h => ?_)
  · obtain ⟨x, rfl, _⟩ := h
    rfl
  · obtain ⟨x, rfl, q⟩ := h
    refine ⟨_, (pss_one (ps_ret (pe_and (pe_call (ok_is_whole T) (hr.mono (by decide)) (by rfl) T.g_is_whole T.F_is_whole.kp T.b_is_whole .nil pass0 (pa_cons (pv 0) pa_nil)) (pe_one (pe_chain op_lt op_lt (pe_un un_neg (pe_glob (v := .int 1000000000000000000000000000000000000000000000000000000000000) (by rfl) T.GREAT.choose_spec ⟨_, rfl⟩)) (pv 0) (pe_glob (v := .int 1000000000000000000000000000000000000000000000000000000000000) (by rfl) T.GREAT.choose_spec ⟨_, rfl⟩)))))), ?_⟩
    exact r_ret (pv_and (b := true) (pv_call (pva_cons (pv_var rfl) pva_nil) fun Q q => ⟨_, rfl, rfl, q⟩) fun _ => pv_chain (pv_neg pv_c) (pv_var rfl) pv_c) q
def sp_measure_in : Sp := fun vs H Q _ => ∃ (a : Addr) (f : F3), vs = [.ref a] ∧ SqT K H a (fV f) ∧ fB f ∧ Q (.int (disc f)) H
theorem ok_measure_in : FnOk P w K mg base CX0 1 T.a_measure_in T.d_measure_in ["form"] (sp_measure_in (K := K)) := by
  refine T.F_measure_in.ok c_measure_in (fun vs H Q E h => ?_) (fun cdv A outer s H vs Q E hr h => ?_)
  · obtain ⟨a, f, rfl, _⟩ := h
    rfl
  · obtain ⟨a, f, rfl, hS, ⟨b1, b2, b3⟩, q⟩ := h
    refine ⟨_, (pss_one (ps_ret (pe_op op_sub (pe_op op_mulW (pe_op op_mulW pe_int (pe_ix ix_tup (pv 0) pe_int (fun _ _ => rfl))) (pe_ix ix_tup (pv 0) pe_int (fun _ _ => rfl))) (pe_op op_mulW (pe_ix ix_tup (pv 0) pe_int (fun _ _ => rfl)) (pe_ix ix_tup (pv 0) pe_int (fun _ _ => rfl)))))), ?_⟩
    refine r_ret (v := .int (4 * f.1 * f.2.2 - f.2.1 * f.2.1)) ?_ q
    apply PB.pv
    walk_at "pb"
def sp_value_at : Sp := fun vs H Q _ => ∃ (a : Addr) (f : F3) (x y : Int), vs = [.ref a, .int x, .int y] ∧ SqT K H a (fV f) ∧ fB f ∧ Bd 1000 x ∧ Bd 1000 y ∧ Q (.int (f.1 * x * x + f.2.1 * x * y + f.2.2 * y * y)) H
theorem ok_value_at : FnOk P w K mg base CX0 1 T.a_value_at T.d_value_at ["form", "x", "y"] (sp_value_at (K := K)) := by
  refine T.F_value_at.ok c_value_at (fun vs H Q E h => ?_) (fun cdv A outer s H vs Q E hr h => ?_)
  · obtain ⟨a, f, x, y, rfl, _⟩ := h
    rfl
  · obtain ⟨a, f, x, y, rfl, hS, ⟨b1, b2, b3⟩, bx, by_, q⟩ := h
    refine ⟨_, (pss_one (ps_ret (pe_op op_add (pe_op op_add (pe_op op_mulW (pe_op op_mulW (pe_ix ix_tup (pv 0) pe_int (fun _ _ => rfl)) (pv 1)) (pv 1)) (pe_op op_mulW (pe_op op_mulW (pe_ix ix_tup (pv 0) pe_int (fun _ _ => rfl)) (pv 1)) (pv 2))) (pe_op op_mulW (pe_op op_mulW (pe_ix ix_tup (pv 0) pe_int (fun _ _ => rfl)) (pv 2)) (pv 2))))), ?_⟩
    refine r_ret ?_ q
    apply PB.pv
    walk_at "pb"
end
end K43
namespace K43
open PySem PySem.Spec PyProof.Rows L2
/-! ### readings that extend the heap -/
def XV (t : TE) (σ : L2.St) (H : Hp) (v : V) : Prop := ∀ Q : VK, (∀ H', Same H H' → Q v H') → t σ H Q
def XT (t : TT) (σ : L2.St) (H : Hp) (b : Bool) : Prop := ∀ Q : Bool → Hp → Prop, (∀ H', Same H H' → Q b H') → t σ H Q
/-- a new list -/
def NL (t : TE) (σ : L2.St) (H : Hp) (xs : List V) : Prop := ∀ Q : VK, (∀ D H', H D = none → Same H H' → H' D = some (.lst xs) → Q (.ref D) H') → t σ H Q
section
variable {K : PySem.W.Frag} {σ : L2.St} {H : Hp} {te tl : TE} {v : V} {t u : TT} {b c : Bool} {D : Ends} {tu tw tz : TS}
theorem PV.x (h : PV te σ H v) : XV te σ H v := fun _ q => h _ (q H (Same.refl H))
theorem PTv.x (h : PTv t σ H b) : XT t σ H b := fun _ q => h _ (q H (Same.refl H))
theorem xt_B (h : XV te σ H (.bl b)) : XT (tB te) σ H b := fun _ q => h _ fun H' s => ⟨b, rfl, q H' s⟩
theorem xt_not (h : XT t σ H b) : XT (tNot t) σ H (!b) := fun _ q => h _ q
theorem xt_or (h : PTv t σ H b) (h2 : b = false → XT u σ H c) : XT (tOr t u) σ H (b || c) := fun Q q => h _ (by
  cases b with
  | true => exact iteT (q H (Same.refl H))
  | false => exact iteF (h2 rfl _ q))
theorem xv_call {sp : Sp} {E : XK} {ta : TA} {vs : List V} (ha : PVa ta σ H vs) (h : ∀ Q : VK, (∀ H', Same H H' → Q v H') → sp (vs ++ []) H Q E) : XV (tCall sp [] E ta) σ H v := fun Q q => ha _ (h Q q)
theorem xv_all {bs : List Bool} (h : NL te σ H (bs.map V.bl)) : XV (tCB (rAll K) (tCons te tNil)) σ H (.bl (bs.all id)) := fun _ q => h _ fun D H' _ s e => ⟨D, bs, rfl, sql_of e, q H' s⟩
theorem r_ifX (h : XT t σ H b) (h1 : b = true → ∀ H', Same H H' → tu { D with nx := tz D } σ H') (h2 : b = false → ∀ H', Same H H' → tw { D with nx := tz D } σ H') : tSeq (tIfS t tu tw) tz D σ H := h _ fun H' s => by
  cases b with
  | true => exact iteT (h1 rfl H' s)
  | false => exact iteF (h2 rfl H' s)
theorem r_whenX (h : XT t σ H b) (h1 : b = true → ∀ H', Same H H' → tu { D with nx := tz D } σ H') (h2 : b = false → ∀ H', Same H H' → tz D σ H') : tSeq (tIfS t tu tNext) tz D σ H := r_ifX h h1 h2
theorem r_when (h : PTv t σ H b) (h1 : b = true → tu { D with nx := tz D } σ H) (h2 : b = false → tz D σ H) : tSeq (tIfS t tu tNext) tz D σ H := r_if h h1 h2
theorem r_retX (h : XV te σ H v) (q : ∀ H', Same H H' → D.rt v H') : tRet te D σ H := h _ q
theorem r_dropX (h : XV te σ H v) (q : ∀ H', Same H H' → tz D σ H') : tSeq (tDrop te) tz D σ H := h _ q
theorem xv_and {ta tb : TE} (ha : XV ta σ H (.bl b)) (hb : b = true → ∀ H', Same H H' → XV tb σ H' (.bl c)) : XV (tAndV ta tb) σ H (.bl (b && c)) := fun Q q => ha _ fun H' s => ⟨b, rfl, by
  cases b with
  | true => exact iteT (hb rfl H' s _ fun H2 s2 => q H2 (s.trans s2))
  | false => exact iteF (q H' s)⟩
theorem xv_is {w : V} (h : XV te σ H v) (e : v = w) : XV te σ H w := e ▸ h
/-- [e for x in t] over a tuple, e without effect -/
theorem nl_lcT {a : Addr} {xs : List V} {j : Nat} {vs : List Nat} (f : V → V) (hl : PV tl σ H (.ref a)) (hS : SqT K H a xs) (hz : xs.length ≤ 1000) (hw : ∀ x, wipe ((wipe σ vs).set j (some x)) vs = wipe σ vs)
    (he : ∀ x ∈ xs, ∀ H', Same H H' → PV te ((wipe σ vs).set j (some x)) H' (f x)) : NL (tLc (iTup K tl) (gName j) tYes te vs) σ H (xs.map f) := by
  intro Q q
  refine hl _ ⟨a, rfl, ⟨xs, hS⟩, fun D hD => ?_⟩
  refine lc_tup (xs := xs) (fun i H' => Same H H' ∧ H' D = some (.lst ((xs.take i).map f))) ⟨same_upd hD, upd_same⟩ (fun i H' _ p => p.1.sqt hS) (fun i x H' hi p => ?_) (fun H' p => ?_)
  · refine ⟨hw x, ?_⟩
    refine he x (List.mem_of_getElem? hi) H' p.1 _ ⟨_, p.2, ?_, fun b o e => ?_, ?_⟩
    · rw [List.length_map, List.length_take]
      exact small1000 (by omega)
    · rw [upd_ne (ne_of_none e hD)]
      exact p.1 b o e
    · rw [upd_same, List.take_add_one, hi, List.map_append]
      rfl
  · rw [List.take_length] at p
    exact q D H' hD p.1 p.2
end
/-! ### a value that may be a matrix -/
def turnB : List V → Bool
  | [.int p, .int q, .int r, .int s] => decide (p * s - q * r = 1)
  | _ => false
def turnO : Option (List V) → Bool
  | none => false
  | some xs => turnB xs
def rightB (f g : F3) : List V → Bool
  | [.int p, .int q, .int r, .int s] => decide (p * s - q * r = 1) && decide (led f (p, q, r, s) = g)
  | _ => false
def rightO (f g : F3) : Option (List V) → Bool
  | none => false
  | some xs => rightB f g xs
inductive Des (K : PySem.W.Frag) (H : Hp) : V → Option (List V) → Prop
  | non : Des K H .non none
  | int (i : Int) : Des K H (.int i) none
  | lst {a : Addr} {xs : List V} (h : H a = some (.lst xs)) : Des K H (.ref a) none
  | tup {a : Addr} {xs : List V} (h : SqT K H a xs) (hl : xs.length ≤ 1000) (he : ∀ x ∈ xs, flatE x = true ∧ ∀ i, x = .int i → Bd 1000 i) : Des K H (.ref a) (some xs)
theorem Des.same {K : PySem.W.Frag} {H H' : Hp} {x : V} {o : Option (List V)} (s : Same H H') (d : Des K H x o) : Des K H' x o := by
  cases d with
  | non => exact .non
  | int i => exact .int i
  | lst h => exact .lst (s _ _ h)
  | tup h hl he => exact .tup (s.sqt h) hl he
theorem Des.ty {K : PySem.W.Frag} {H : Hp} {x : V} (d : Des K H x none) : ∃ t : String, TyX K H x (.type t) ∧ kitB t "tuple" = some false := by
  cases d with
  | non => exact ⟨"NoneType", .base .non, by decide +kernel⟩
  | int i => exact ⟨"int", .base (.int i), by decide +kernel⟩
  | lst h => exact ⟨"list", .base (.lst h), by decide +kernel⟩
theorem whole4 : ∀ {xs : List V}, xs.length = 4 → xs.all wholeV = true → ∃ m : M4, xs = mV m
  | [a, b, c, d], _, h => by
    simp only [List.all_cons, List.all_nil, Bool.and_true, Bool.and_eq_true] at h
    obtain ⟨h1, h2, h3, h4⟩ := h
    cases a with
    | int p =>
      cases b with
      | int q =>
        cases c with
        | int r =>
          cases d with
          | int s => exact ⟨(p, q, r, s), rfl⟩
          | _ => cases h4
        | _ => cases h3
      | _ => cases h2
    | _ => cases h1
theorem turnB_m (m : M4) : turnB (mV m) = decide (det m = 1) := rfl
theorem rightB_m (f g : F3) (m : M4) : rightB f g (mV m) = (decide (det m = 1) && decide (led f m = g)) := rfl
theorem turnB_whole {xs : List V} (h : turnB xs = true) : xs.length = 4 ∧ xs.all wholeV = true := by
  unfold turnB at h
  split at h
  · exact ⟨rfl, rfl⟩
  · cases h
theorem turnB_len {xs : List V} (h : xs.length ≠ 4) : turnB xs = false := by
  cases e : turnB xs with
  | false => rfl
  | true => exact absurd (turnB_whole e).1 h
theorem turnB_all {xs : List V} (h : xs.all wholeV = false) : turnB xs = false := by
  cases e : turnB xs with
  | false => rfl
  | true =>
    rw [(turnB_whole e).2] at h
    cases h
theorem rightB_eq (f g : F3) {xs : List V} (h : turnB xs = false) : rightB f g xs = false := by
  unfold turnB at h
  split at h
  · simp only [rightB]
    rw [h]
    rfl
  · rename_i hn
    unfold rightB
    split
    · exact absurd rfl (hn _ _ _ _)
    · rfl
theorem bl_dec {p q : Prop} [Decidable p] [Decidable q] (h : p ↔ q) : V.bl (decide p) = V.bl (decide q) := by
  congr 1
  exact decide_eq_decide.mpr h
theorem vint_inj {i j : Int} : V.int i = V.int j ↔ i = j := ⟨fun h => V.int.inj h, fun h => by rw [h]⟩
section
variable {P : Program} {w : World} {K : PySem.W.Frag} {mg : Str → Option Value} {base : Heap} (T : Txt K mg)
def sp_led_by : Sp := fun vs H Q _ => ∃ (a b : Addr) (f : F3) (m : M4), vs = [.ref a, .ref b] ∧ SqT K H a (fV f) ∧ SqT K H b (mV m) ∧ fB f ∧ mB m ∧ ∀ p, H p = none → Q (.ref p) (upd H p (.tup (fV (led f m))))
theorem ok_led_by : FnOk P w K mg base CX0 2 T.a_led_by T.d_led_by ["form", "matrix"] (sp_led_by (K := K)) := by
  refine T.F_led_by.ok c_led_by (fun vs H Q E h => ?_) (fun cdv A outer s H vs Q E hr h => ?_)
  · obtain ⟨a, b, f, m, rfl, _⟩ := h
    rfl
  · obtain ⟨a, b, f, m, rfl, hS, hM, ⟨b1, b2, b3⟩, ⟨m1, m2, m3, m4⟩, q⟩ := h
    refine ⟨_, (pss_cons (ps_asg (pv 1) (pg_tup (by rfl) (pgs_cons (pg_name (i := 2) c_led_by.nd rfl (.inl rfl)) (pgs_cons (pg_name (i := 3) c_led_by.nd rfl (.inl rfl)) (pgs_cons (pg_name (i := 4) c_led_by.nd rfl (.inl rfl)) (pgs_cons (pg_name (i := 5) c_led_by.nd rfl (.inl rfl)) pgs_nil))))))
      (pss_cons (ps_set (i := 6) c_led_by.nd rfl (.inl rfl) (pe_op op_add (pe_op op_add (pe_op op_mulW (pe_op op_mulW (pe_op op_mulW pe_int (pe_ix ix_tup (pv 0) pe_int (fun _ _ => rfl))) (pv 2)) (pv 3)) (pe_op op_mulW (pe_ix ix_tup (pv 0) pe_int (fun _ _ => rfl)) (pe_op op_add (pe_op op_mulW (pv 2) (pv 5)) (pe_op op_mulW (pv 3) (pv 4))))) (pe_op op_mulW (pe_op op_mulW (pe_op op_mulW pe_int (pe_ix ix_tup (pv 0) pe_int (fun _ _ => rfl))) (pv 4)) (pv 5))))
      (pss_one (ps_ret (pe_tup (pa_cons (pe_call (ok_value_at T) (hr.mono (by decide)) (by rfl) T.g_value_at T.F_value_at.kp T.b_value_at .nil pass0 (pa_cons (pv 0) (pa_cons (pv 2) (pa_cons (pv 4) pa_nil)))) (pa_cons (pv 6) (pa_cons (pe_call (ok_value_at T) (hr.mono (by decide)) (by rfl) T.g_value_at T.F_value_at.kp T.b_value_at .nil pass0 (pa_cons (pv 0) (pa_cons (pv 3) (pa_cons (pv 5) pa_nil)))) pa_nil)))))))), ?_⟩
    refine r_un4 rfl hM ?_
    refine r_set (v := .int (led f m).2.1) ?_ ?_
    · apply PB.pv
      show PB _ _ _ (2 * f.1 * m.1 * m.2.1 + f.2.1 * (m.1 * m.2.2.2 + m.2.1 * m.2.2.1) + 2 * f.2.2 * m.2.2.1 * m.2.2.2) _
      walk_at "pb"
    · refine r_retTup (pva_cons (pv_call (pva_cons (pv_var rfl) (pva_cons (pv_var rfl) (pva_cons (pv_var rfl) pva_nil))) fun Q q => ⟨a, f, _, _, rfl, hS, ⟨b1, b2, b3⟩, m1, m3, q⟩)
        (pva_cons (pv_var rfl) (pva_cons (pv_call (pva_cons (pv_var rfl) (pva_cons (pv_var rfl) (pva_cons (pv_var rfl) pva_nil))) fun Q q => ⟨a, f, _, _, rfl, hS, ⟨b1, b2, b3⟩, m2, m4, q⟩) pva_nil))) (by show 3 ≤ sizeLine; decide) q
def sp_product_of : Sp := fun vs H Q _ => ∃ (a b : Addr) (m n : M4), vs = [.ref a, .ref b] ∧ SqT K H a (mV m) ∧ SqT K H b (mV n) ∧ mB m ∧ mB n ∧ ∀ p, H p = none → Q (.ref p) (upd H p (.tup (mV (mul m n))))
theorem ok_product_of : FnOk P w K mg base CX0 1 T.a_product_of T.d_product_of ["one", "other"] (sp_product_of (K := K)) := by
  refine T.F_product_of.ok c_product_of (fun vs H Q E h => ?_) (fun cdv A outer s H vs Q E hr h => ?_)
  · obtain ⟨a, b, m, n, rfl, _⟩ := h
    rfl
  · obtain ⟨a, b, m, n, rfl, hS, hM, ⟨b1, b2, b3, b4⟩, ⟨m1, m2, m3, m4⟩, q⟩ := h
    refine ⟨_, (pss_cons (ps_asg (pv 0) (pg_tup (by rfl) (pgs_cons (pg_name (i := 2) c_product_of.nd rfl (.inl rfl)) (pgs_cons (pg_name (i := 3) c_product_of.nd rfl (.inl rfl)) (pgs_cons (pg_name (i := 4) c_product_of.nd rfl (.inl rfl)) (pgs_cons (pg_name (i := 5) c_product_of.nd rfl (.inl rfl)) pgs_nil))))))
      (pss_cons (ps_asg (pv 1) (pg_tup (by rfl) (pgs_cons (pg_name (i := 6) c_product_of.nd rfl (.inl rfl)) (pgs_cons (pg_name (i := 7) c_product_of.nd rfl (.inl rfl)) (pgs_cons (pg_name (i := 8) c_product_of.nd rfl (.inl rfl)) (pgs_cons (pg_name (i := 9) c_product_of.nd rfl (.inl rfl)) pgs_nil))))))
      (pss_one (ps_ret (pe_tup (pa_cons (pe_op op_add (pe_op op_mulW (pv 2) (pv 6)) (pe_op op_mulW (pv 3) (pv 8))) (pa_cons (pe_op op_add (pe_op op_mulW (pv 2) (pv 7)) (pe_op op_mulW (pv 3) (pv 9))) (pa_cons (pe_op op_add (pe_op op_mulW (pv 4) (pv 6)) (pe_op op_mulW (pv 5) (pv 8))) (pa_cons (pe_op op_add (pe_op op_mulW (pv 4) (pv 7)) (pe_op op_mulW (pv 5) (pv 9))) pa_nil))))))))), ?_⟩
    refine r_un4 rfl hS (r_un4 rfl hM ?_)
    refine r_retTup (pva_cons ?_ (pva_cons ?_ (pva_cons ?_ (pva_cons ?_ pva_nil)))) (by show 4 ≤ sizeLine; decide) q
    all_goals
      apply PB.pv
      walk_at "pb"
def sp_is_least : Sp := fun vs H Q _ => ∃ (a : Addr) (f : F3), vs = [.ref a] ∧ SqT K H a (fV f) ∧ Q (.bl (decide (Least f))) H
theorem least_bool (a b c : Int) : decide (Least (a, b, c)) = ((decide (-a ≤ b) && (decide (b ≤ a) && decide (a ≤ c))) && (decide (0 ≤ b) || (!decide (V.int b = V.int (-a)) && !decide (V.int a = V.int c)))) := by
  rw [Bool.eq_iff_iff, decide_eq_true_iff]
  simp [Least, vint_inj]
theorem ok_is_least : FnOk P w K mg base CX0 1 T.a_is_least T.d_is_least ["form"] (sp_is_least (K := K)) := by
  refine T.F_is_least.ok c_is_least (fun vs H Q E h => ?_) (fun cdv A outer s H vs Q E hr h => ?_)
  · obtain ⟨a, f, rfl, _⟩ := h
    rfl
  · obtain ⟨a, ⟨x, y, z⟩, rfl, hS, q⟩ := h
    refine ⟨_, (pss_cons (ps_asg (pv 0) (pg_tup (by rfl) (pgs_cons (pg_name (i := 1) c_is_least.nd rfl (.inl rfl)) (pgs_cons (pg_name (i := 2) c_is_least.nd rfl (.inl rfl)) (pgs_cons (pg_name (i := 3) c_is_least.nd rfl (.inl rfl)) pgs_nil)))))
      (pss_cons (ps_if (pt_not (pt_chain3 op_le op_le op_le (pe_un un_neg (pv 1)) (pv 2) (pv 1) (pv 3))) (pss_one (ps_ret pe_bl)) pss_nil)
      (pss_one (ps_ret (pe_or (pe_cmpR op_ge (pv 2) pe_int (nomark _)) (pe_one (pe_and (pe_cmpR op_ne (pv 2) (pe_un un_neg (pv 1)) (nomark _)) (pe_one (pe_cmpR op_ne (pv 1) (pv 3) (nomark _)))))))))), ?_⟩
    rw [least_bool] at q
    refine r_un3 rfl hS (r_when (ptv_not (pt_test (pv_chain3 (pv_neg (pv_var rfl)) (pv_var rfl) (pv_var rfl) (pv_var rfl)))) (fun e => ?_) fun e => ?_)
    · have e2 : (decide (-x ≤ y) && (decide (y ≤ x) && decide (x ≤ z))) = false := by
        rw [← Bool.not_eq_true']
        exact e
      rw [e2] at q
      exact r_ret pv_c q
    · have e2 : (decide (-x ≤ y) && (decide (y ≤ x) && decide (x ≤ z))) = true := by
        rw [← Bool.not_eq_false']
        exact e
      rw [e2, Bool.true_and] at q
      refine r_ret ?_ q
      exact pv_or (pv_op0 (pv_var rfl) pv_c) fun _ => pv_and (pv_ne (pv_var rfl) (pv_neg (pv_var rfl)) rfl) fun _ => pv_ne (pv_var rfl) (pv_var rfl) rfl
end
end K43
namespace K43
open PySem PySem.Spec PyProof.Rows L2
/-- forms whose integers have at most sixty digits -/
abbrev F60 (f : F3) : Prop := (-G60 < f.1 ∧ f.1 < G60) ∧ (-G60 < f.2.1 ∧ f.2.1 < G60) ∧ (-G60 < f.2.2 ∧ f.2.2 < G60)
theorem bd_60 {x : Int} (h : -G60 ≤ x ∧ x ≤ G60) : Bd 1000 x := Bd.mono (n := 200) (Bd.of h (by decide)) (by decide)
theorem bd_120 {x : Int} (h : -(2 * G60) ≤ x ∧ x ≤ 2 * G60) : Bd 1000 x := Bd.mono (n := 201) (Bd.of h (by decide)) (by decide)
theorem F60.wi {f : F3} (h : F60 f) : Wi G60 f := by
  obtain ⟨h1, h2, h3⟩ := h
  exact ⟨by omega, by omega, by omega, by omega⟩
theorem wi_fB {f : F3} (p : Pd f) (h : Wi G60 f) : fB f := by
  have h1 := p.1
  have h2 := p.c
  obtain ⟨w1, w2, w3, w4⟩ := h
  exact ⟨bd_60 (by omega), bd_60 (by omega), bd_60 (by omega)⟩
theorem wi_mB {f : F3} {m : M4} (p : Pd f) (h : Wi G60 f) (h2 : Wi G60 (led f m)) (hm : det m = 1) : mB m := by
  obtain ⟨h1, h2, h3, h4⟩ := mat_wi p h h2 hm
  exact ⟨bd_120 h1, bd_120 h2, bd_120 h3, bd_120 h4⟩
/-- g is the least form alike to f -/
def Red (f g : F3) : Prop := Least g ∧ Wi G60 g ∧ ∃ m, det m = 1 ∧ led f m = g
theorem Red.uniq {f g h : F3} (pf : Pd f) (a : Red f g) (b : Red f h) : g = h := by
  obtain ⟨l1, _, m1, d1, e1⟩ := a
  obtain ⟨l2, _, m2, d2, e2⟩ := b
  have pg : Pd g := e1 ▸ pf.led d1
  refine least_unique (m := mul (inv m1) m2) pg l1 l2 ?_ ?_
  · rw [det_mul, det_inv, d1, d2] <;> rfl
  · rw [← led_mul, led_inv d1 e1, e2]
section
variable {P : Program} {w : World} {K : PySem.W.Frag} {mg : Str → Option Value} {base : Heap} (T : Txt K mg)
def sp_is_form : Sp := fun vs H Q _ => ∃ (a : Addr) (f : F3), vs = [.ref a] ∧ SqT K H a (fV f) ∧ Pd f ∧ F60 f ∧ ∀ H', Same H H' → Q (.bl true) H'
theorem ok_is_form : FnOk P w K mg base CX0 3 T.a_is_form T.d_is_form ["value"] (sp_is_form (K := K)) := by
  refine T.F_is_form.ok c_is_form (fun vs H Q E h => ?_) (fun cdv A outer s H vs Q E hr h => ?_)
  · obtain ⟨a, f, rfl, _⟩ := h
    rfl
  · obtain ⟨a, f, rfl, hS, pf, hf, q⟩ := h
    refine ⟨_, (pss_cons (ps_if (PW.pt (pw_or (pt_not (pt_val (pe_callB (id := "isinstance") (r := rIsi K) call_isi (by rfl) T.n_isinstance (by decide +kernel) (pa_cons (pv 0) (pa_cons (pe_bltn (v := .ty "tuple") (by rfl) T.n_tuple PyProof.Rows.boot_tuple rfl) pa_nil))))) (pw_or (pt_cmpR op_ne (pe_callB call_len (by rfl) T.n_len (by decide +kernel) (pa_cons (pv 0) pa_nil)) (pe_glob (v := .int 3) (by rfl) T.FORM_SIZE.choose_spec ⟨_, rfl⟩) (nomark _)) (pw_or1 (pt_not (pt_val (pe_callB (cr_all rfl) (by rfl) T.n_all (by decide +kernel) (pa_cons (pe_lc (own := [("entry", 1)]) (g := gName 1) (by rfl) c_is_form.nd (pi_tup (pv 0)) (blkOk_by (own := [("entry", 1)]) (N := ["value", "entry"]) (sc := defScope s_is_form) (by decide +kernel)) (fun _ _ _ _ _ => pg_name (i := 1) c_is_form.nd rfl (Or.inl rfl)) (fun _ _ _ _ _ => pts_nil) (fun _ _ _ _ _ => (pe_call (ok_is_integer T) (hr.mono (by decide)) (by rfl) T.g_is_integer T.F_is_integer.kp T.b_is_integer .nil pass0 (pa_cons (pv 1) pa_nil)))) pa_nil)))))))) (pss_one (ps_ret pe_bl)) pss_nil)
      (pss_one (ps_ret (pe_and (pe_cmpR op_gt (pe_ix ix_tup (pv 0) pe_int (fun _ _ => rfl)) pe_int (nomark _)) (pe_one (pe_cmpR op_gt (pe_call (ok_measure_in T) (hr.mono (by decide)) (by rfl) T.g_measure_in T.F_measure_in.kp T.b_measure_in .nil pass0 (pa_cons (pv 0) pa_nil)) pe_int (nomark _))))))), ?_⟩
    have bf := wi_fB pf hf.wi
    have el : ∀ x ∈ fV f, ∃ i : Int, x = .int i ∧ -G60 < i ∧ i < G60 := by
      obtain ⟨h1, h2, h3⟩ := hf
      intro x hx
      simp only [List.mem_cons, List.not_mem_nil, or_false] at hx
      rcases hx with rfl | rfl | rfl
      · exact ⟨_, rfl, h1⟩
      · exact ⟨_, rfl, h2⟩
      · exact ⟨_, rfl, h3⟩
    refine r_whenX (b := false || (false || !true)) (xt_or (ptv_not (b := true) (pt_B (pv_isi (pv_var rfl) (tyx_tup hS) (by decide +kernel)))) fun _ => xt_or (pt_test (pv_ne (pv_callB (v := .int 3) (pva_cons (pv_var rfl) pva_nil) fun Q q => ⟨.ref a, 3, rfl, .inr ⟨_, hS, rfl⟩, q⟩) pv_c rfl)) fun _ =>
      xt_not (b := true) (xt_B (xv_all (bs := [true, true, true]) (nl_lcT (xs := fV f) (fun _ => .bl true) (pv_var rfl) hS (by show 3 ≤ 1000; decide) (fun x => rfl) ?_)))) (fun e => by cases e) fun _ H' sm => ?_
    · intro x hx H' _
      obtain ⟨i, rfl, h1, h2⟩ := el x hx
      refine pv_call (pva_cons (pv_var rfl) pva_nil) fun Q q => ⟨i, rfl, ?_⟩
      rw [decide_eq_true h1, decide_eq_true h2]
      exact q
    · have hS' := sm.sqt hS
      refine r_ret ?_ (q H' sm)
      have e1 : (decide (0 < f.1) && decide (0 < disc f)) = true := by
        rw [decide_eq_true pf.1, decide_eq_true pf.2]
        rfl
      rw [← e1]
      exact pv_and (pv_op0 (pv_ixT (pv_var rfl) pv_c hS' rfl) pv_c) fun _ => pv_op0 (pv_call (pva_cons (pv_var rfl) pva_nil) fun Q q => ⟨a, f, rfl, hS', bf, q⟩) pv_c
def sp_require_form : Sp := fun vs H Q _ => ∃ (a : Addr) (f : F3), vs = [.ref a] ∧ SqT K H a (fV f) ∧ Pd f ∧ F60 f ∧ ∀ H', Same H H' → Q .non H'
theorem ok_require_form : FnOk P w K mg base CX0 4 T.a_require_form T.d_require_form ["value"] (sp_require_form (K := K)) := by
  refine T.F_require_form.ok c_require_form (fun vs H Q E h => ?_) (fun cdv A outer s H vs Q E hr h => ?_)
  · obtain ⟨a, f, rfl, _⟩ := h
    rfl
  · obtain ⟨a, f, rfl, hS, pf, hf, q⟩ := h
    refine ⟨_, (pss_one (ps_if (pt_not (pt_val (pe_call (ok_is_form T) (hr.mono (by decide)) (by rfl) T.g_is_form T.F_is_form.kp T.b_is_form .nil pass0 (pa_cons (pv 0) pa_nil)))) (pss_one ps_never) pss_nil)), ?_⟩
    exact ⟨.ref a, rfl, a, f, rfl, hS, pf, hf, fun H' sm => ⟨true, rfl, iteF (q H' sm)⟩⟩
def sp_is_turn : Sp := fun vs H Q _ => ∃ (x : V) (o : Option (List V)), vs = [x] ∧ Des K H x o ∧ ∀ H', Same H H' → Q (.bl (turnO o)) H'
theorem ok_is_turn : FnOk P w K mg base CX0 2 T.a_is_turn T.d_is_turn ["value"] (sp_is_turn (K := K)) := by
  refine T.F_is_turn.ok c_is_turn (fun vs H Q E h => ?_) (fun cdv A outer s H vs Q E hr h => ?_)
  · obtain ⟨x, o, rfl, _⟩ := h
    rfl
  · obtain ⟨x, o, rfl, hx, q⟩ := h
    refine ⟨_, (pss_cons (ps_if (PW.pt (pw_or (pt_not (pt_val (pe_callB (id := "isinstance") (r := rIsi K) call_isi (by rfl) T.n_isinstance (by decide +kernel) (pa_cons (pv 0) (pa_cons (pe_bltn (v := .ty "tuple") (by rfl) T.n_tuple PyProof.Rows.boot_tuple rfl) pa_nil))))) (pw_or (pt_cmpR op_ne (pe_callB call_len (by rfl) T.n_len (by decide +kernel) (pa_cons (pv 0) pa_nil)) (pe_glob (v := .int 4) (by rfl) T.MATRIX_SIZE.choose_spec ⟨_, rfl⟩) (nomark _)) (pw_or1 (pt_not (pt_val (pe_callB (cr_all rfl) (by rfl) T.n_all (by decide +kernel) (pa_cons (pe_lc (own := [("entry", 1)]) (g := gName 1) (by rfl) c_is_turn.nd (pi_tup (pv 0)) (blkOk_by (own := [("entry", 1)]) (N := ["value", "entry"]) (sc := defScope s_is_turn) (by decide +kernel)) (fun _ _ _ _ _ => pg_name (i := 1) c_is_turn.nd rfl (Or.inl rfl)) (fun _ _ _ _ _ => pts_nil) (fun _ _ _ _ _ => (pe_call (ok_is_whole T) (hr.mono (by decide)) (by rfl) T.g_is_whole T.F_is_whole.kp T.b_is_whole .nil pass0 (pa_cons (pv 1) pa_nil)))) pa_nil)))))))) (pss_one (ps_ret pe_bl)) pss_nil)
      (pss_one (ps_ret (pe_cmpR op_eq (pe_op op_sub (pe_op op_mulW (pe_ix ix_tup (pv 0) pe_int (fun _ _ => rfl)) (pe_ix ix_tup (pv 0) pe_int (fun _ _ => rfl))) (pe_op op_mulW (pe_ix ix_tup (pv 0) pe_int (fun _ _ => rfl)) (pe_ix ix_tup (pv 0) pe_int (fun _ _ => rfl)))) pe_int (nomark _))))), ?_⟩
    cases o with
    | none =>
      obtain ⟨t, ty, k⟩ := hx.ty
      refine r_when (b := true || true) (ptv_or (ptv_not (b := false) (pt_B (pv_isi (pv_var rfl) ty k))) fun e => by cases e) (fun _ => r_ret pv_c (q H (Same.refl H))) fun e => by cases e
    | some xs =>
      obtain ⟨a, rfl, hS, hl, he⟩ : ∃ a, x = .ref a ∧ SqT K H a xs ∧ xs.length ≤ 1000 ∧ ∀ x ∈ xs, flatE x = true ∧ ∀ i, x = .int i → Bd 1000 i := by
        cases hx with
        | tup h hl he => exact ⟨_, rfl, h, hl, he⟩
      have isi : PTv (tNot (tB (tCB (rIsi K) (tCons (tVar 0) (tCons (tC (.ty "tuple")) tNil))))) (L2.start ["value", "entry"] [V.ref a]) H false :=
        ptv_not (b := true) (pt_B (pv_isi (pv_var rfl) (tyx_tup hS) (by decide +kernel)))
      have len : PV (tCB (fun xs H Q => ∃ x n, xs = [x] ∧ LenV K x H n ∧ Q (.int n) H) (tCons (tVar 0) tNil)) (L2.start ["value", "entry"] [V.ref a]) H (.int (xs.length : Int)) :=
        pv_callB (pva_cons (pv_var rfl) pva_nil) fun Q q => ⟨.ref a, xs.length, rfl, .inr ⟨_, hS, rfl⟩, q⟩
      by_cases hn : xs.length = 4
      · have e4 : (!decide (V.int (xs.length : Int) = V.int 4)) = false := by
          rw [hn]
          rfl
        refine r_whenX (b := false || (false || !((xs.map wholeV).all id))) (xt_or isi fun _ => xt_or (ptv_is (pt_test (pv_ne len pv_c rfl)) e4) fun _ =>
          xt_not (xt_B (xv_all (bs := xs.map wholeV) ?_))) (fun e H' sm => ?_) fun e H' sm => ?_
        · have em : (xs.map wholeV).map V.bl = xs.map fun x => V.bl (wholeV x) := by
            rw [List.map_map]
            rfl
          rw [em]
          exact nl_lcT (xs := xs) (fun x => .bl (wholeV x)) (pv_var rfl) hS hl (fun x => rfl) fun x hx H' _ => pv_call (pva_cons (pv_var rfl) pva_nil) fun Q q => ⟨x, rfl, (he x hx).1, q⟩
        · have e2 : xs.all wholeV = false := by
            have e3 : (!((xs.map wholeV).all id)) = true := by
              simpa using e
            rw [Bool.not_eq_true'] at e3
            rw [← e3, List.all_map]
            rfl
          have q2 := q H' sm
          rw [show turnO (some xs) = false from turnB_all e2] at q2
          exact r_ret pv_c q2
        · have e2 : xs.all wholeV = true := by
            have e3 : (!((xs.map wholeV).all id)) = false := by
              simpa using e
            rw [Bool.not_eq_false'] at e3
            rw [← e3, List.all_map]
            rfl
          obtain ⟨m, rfl⟩ := whole4 hn e2
          have hS' := sm.sqt hS
          have bd : ∀ i : Int, V.int i ∈ mV m → Bd 1000 i := fun i hi => (he _ hi).2 i rfl
          have b1 := bd m.1 (by simp)
          have b2 := bd m.2.1 (by simp)
          have b3 := bd m.2.2.1 (by simp)
          have b4 := bd m.2.2.2 (by simp)
          refine r_ret ?_ (q H' sm)
          show PV _ _ _ (.bl (decide (m.1 * m.2.2.2 - m.2.1 * m.2.2.1 = 1)))
          refine pv_is (pv_eq (v := .int (m.1 * m.2.2.2 - m.2.1 * m.2.2.1)) (w := .int 1) ?_ pv_c rfl) (bl_dec vint_inj)
          apply PB.pv
          walk_at "pb"
      · have e4 : (!decide (V.int (xs.length : Int) = V.int 4)) = true := by
          have : ¬ (V.int (xs.length : Int) = V.int 4) := fun z => hn (by
            have := V.int.inj z
            omega)
          rw [decide_eq_false this]
          rfl
        have q2 := q H (Same.refl H)
        rw [show turnO (some xs) = false from turnB_len hn] at q2
        exact r_when (b := false || (true || true)) (ptv_or isi fun _ => ptv_or (ptv_is (pt_test (pv_ne len pv_c rfl)) e4) fun e => by cases e) (fun _ => r_ret pv_c q2) fun e => by cases e
theorem r_asgTup {σ : L2.St} {H : Hp} {D : Ends} {t : TA} {i : Nat} {vs : List V} (h : PVa t σ H vs) (hl : vs.length ≤ sizeLine) (q : ∀ p, H p = none → D.nx (σ.set i (some (.ref p))) (upd H p (.tup vs))) : tAsg (tTup t) (gName i) D σ H := h _ ⟨hl, q⟩
def sp_reducing : Sp := fun vs H Q _ => ∃ (a : Addr) (f : F3), vs = [.ref a] ∧ SqT K H a (fV f) ∧ Pd f ∧ Wi G60 f ∧
  ∀ H' p pf pm g m, Same H H' → H' p = some (.tup [.ref pf, .ref pm]) → SqT K H' pf (fV g) → SqT K H' pm (mV m) → Least g → Wi G60 g → det m = 1 → led f m = g → Q (.ref p) H'
theorem tr_led {f : F3} (h : Pd f) : True := trivial
theorem small_idle {f : F3} (h : Pd f) (w : Wi G60 f) : ∃ k, reach k f := by
  obtain ⟨w1, _⟩ := w
  have e : f.1 < 2 ^ 200 := by
    have : (G60 : Int) < 2 ^ 200 := by decide
    omega
  exact ⟨_, reach_all h e⟩
theorem stepM_eq (h : F3) : stepM h = if (decide (-h.1 < h.2.1) && decide (h.2.1 ≤ h.1)) = true then swp else trn ((h.1 - h.2.1) / (2 * h.1)) := by
  unfold stepM
  by_cases c : -h.1 < h.2.1 ∧ h.2.1 ≤ h.1
  · rw [if_pos c, if_pos (by rw [decide_eq_true c.1, decide_eq_true c.2]; rfl)]
  · rw [if_neg c, if_neg (by simpa using c)]
theorem ok_reducing : FnOk P w K mg base CX0 3 T.a_reducing T.d_reducing ["form"] (sp_reducing (K := K)) := by
  refine T.F_reducing.ok c_reducing (fun vs H Q E h => ?_) (fun cdv A outer s H vs Q E hr h => ?_)
  · obtain ⟨a, f, rfl, _⟩ := h
    rfl
  · obtain ⟨a, f, rfl, hS, pf, wf, q⟩ := h
    refine ⟨_, PSs.nox (pss_cons (ps_par (i := 1) (j := 2) (by rfl) c_reducing.nd rfl rfl (by decide) rfl rfl (pa_cons (pv 0) (pa_cons (pe_glob (v := .ref T.a_IDLE) (by rfl) T.g_IDLE rfl) pa_nil)) (by rfl))
      (pss_cons (ps_while PassesOwn.never (pt_not (pt_val (pe_call (ok_is_least T) (hr.mono (by decide)) (by rfl) T.g_is_least T.F_is_least.kp T.b_is_least .nil pass0 (pa_cons (pv 1) pa_nil)))) (pss_cons (ps_asg (pv 1) (pg_tup (by rfl) (pgs_cons (pg_name (i := 3) c_reducing.nd rfl (.inl rfl)) (pgs_cons (pg_name (i := 4) c_reducing.nd rfl (.inl rfl)) (pgs_cons (pg_name (i := 5) c_reducing.nd rfl (.inl rfl)) pgs_nil)))))
      (pss_cons (ps_if (pt_chain op_lt op_le (pe_un un_neg (pv 3)) (pv 4) (pv 3)) (pss_one (ps_set (i := 6) c_reducing.nd rfl (.inl rfl) (pe_tup (pa_cons pe_int (pa_cons (pe_un un_neg pe_int) (pa_cons pe_int (pa_cons pe_int pa_nil))))))) (pss_one (ps_set (i := 6) c_reducing.nd rfl (.inl rfl) (pe_tup (pa_cons pe_int (pa_cons (pe_op op_fdivW (pe_op op_sub (pv 3) (pv 4)) (pe_op op_mulW pe_int (pv 3))) (pa_cons pe_int (pa_cons pe_int pa_nil))))))))
      (pss_one (ps_par (i := 1) (j := 2) (by rfl) c_reducing.nd rfl rfl (by decide) rfl rfl (pa_cons (pe_call (ok_led_by T) (hr.mono (by decide)) (by rfl) T.g_led_by T.F_led_by.kp T.b_led_by .nil pass0 (pa_cons (pv 1) (pa_cons (pv 6) pa_nil))) (pa_cons (pe_call (ok_product_of T) (hr.mono (by decide)) (by rfl) T.g_product_of T.F_product_of.kp T.b_product_of .nil pass0 (pa_cons (pv 2) (pa_cons (pv 6) pa_nil))) pa_nil)) (by rfl))))))
      (pss_one (ps_ret (pe_tup (pa_cons (pv 1) (pa_cons (pv 2) pa_nil))))))), ?_⟩
    refine r_par (pv_var rfl) pv_c ?_
    obtain ⟨k0, rk0⟩ := small_idle pf wf
    refine ⟨fun m σ H' => ∃ (ph pm : Addr) (h : F3) (M : M4) (x3 x4 x5 x6 : Option V), σ = [some (.ref a), some (.ref ph), some (.ref pm), x3, x4, x5, x6] ∧ Same H H' ∧ SqT K H' ph (fV h) ∧ SqT K H' pm (mV M) ∧ det M = 1 ∧ led f M = h ∧ Wi G60 h ∧ reach m h,
      ⟨k0, a, T.a_IDLE, f, idm, none, none, none, none, rfl, Same.refl H, hS, T.t_IDLE H, det_id, led_id f, wf, rk0⟩, ?_⟩
    rintro m σ H' ⟨ph, pm, h, M, x3, x4, x5, x6, rfl, sm, hH, hM, dM, eM, wh, rk⟩
    refine (ptv_not (b := decide (Least h)) (pt_B (pv_call (pva_cons (pv_var rfl) pva_nil) fun Q q => ⟨ph, h, rfl, hH, q⟩))) _ ?_
    by_cases hl : Least h
    · rw [decide_eq_true hl]
      refine iteF ?_
      exact ⟨_, rfl, _, rfl, (by show 2 ≤ sizeLine; decide), fun p np => q _ p ph pm h M (sm.trans (same_upd np)) upd_same ((same_upd np).sqt hH) ((same_upd np).sqt hM) hl wh dM eM⟩
    · rw [decide_eq_false hl]
      refine iteT ?_
      obtain ⟨k, rfl, rk'⟩ := rk.next hl
      have ph' : Pd h := eM ▸ pf.led dM
      have bh := wi_fB ph' wh
      have bM := wi_mB pf wf (by rw [eM]; exact wh) dM
      have bS : mB (stepM h) := wi_mB ph' wh (step_wi ph' wh hl) (det_stepM h)
      refine ⟨fun σ' H2 => ∃ (ph pm : Addr) (h : F3) (M : M4) (x3 x4 x5 x6 : Option V), σ' = [some (.ref a), some (.ref ph), some (.ref pm), x3, x4, x5, x6] ∧ Same H H2 ∧ SqT K H2 ph (fV h) ∧ SqT K H2 pm (mV M) ∧ det M = 1 ∧ led f M = h ∧ Wi G60 h ∧ reach k h,
        fun σ' H2 z => ⟨k, Nat.lt_succ_self k, z⟩, ?_⟩
      refine r_un3 rfl hH ?_
      refine r_if (pt_test (pv_chain (pv_neg (pv_var rfl)) (pv_var rfl) (pv_var rfl))) (fun e => ?_) fun e => ?_
      · have es : stepM h = swp := by rw [stepM_eq, if_pos e]
        refine r_asgTup (vs := mV swp) (pva_cons pv_c (pva_cons (pv_neg pv_c) (pva_cons pv_c (pva_cons pv_c pva_nil)))) (by show 4 ≤ sizeLine; decide) fun p np => ?_
        have s1 := same_upd (o := .tup (mV swp)) np
        have hp : SqT K (upd H' p (.tup (mV swp))) p (mV (stepM h)) := by
          rw [es]
          exact sqt_of upd_same
        refine ⟨_, rfl, _, rfl, ph, p, h, stepM h, rfl, s1.sqt hH, hp, bh, bS, fun p2 np2 => ?_⟩
        have s2 := same_upd (o := .tup (fV (led h (stepM h)))) np2
        refine ⟨_, rfl, _, rfl, pm, p, M, stepM h, rfl, s2.sqt (s1.sqt hM), s2.sqt hp, bM, bS, fun p3 np3 => ?_⟩
        have s3 := same_upd (o := .tup (mV (mul M (stepM h)))) np3
        exact ⟨_, _, rfl, p2, p3, step h, mul M (stepM h), _, _, _, _, rfl, sm.trans (s1.trans (s2.trans s3)), s3.sqt (sqt_of upd_same), sqt_of upd_same, by rw [det_mul, dM, det_stepM] <;> rfl, by rw [← led_mul, eM] <;> rfl, step_wi ph' wh hl, rk'⟩
      · have ha := ph'.1
        have e3 : ¬ (decide (-h.1 < h.2.1) && decide (h.2.1 ≤ h.1)) = true := by
          rw [e]
          exact Bool.false_ne_true
        have es : stepM h = trn ((h.1 - h.2.1) / (2 * h.1)) := by rw [stepM_eq, if_neg e3]
        have cd : CDivW (h.1 - h.2.1) (2 * h.1) := wide_div (by omega) (Bd.mul (n := 128) (x := 2) (by decide) bh.1) (by decide) (by decide)
        have cm : CMulW 2 h.1 := wide_mul (a := 128) (b := 1000) (by decide) bh.1 (by decide) (by decide) (by decide)
        refine r_asgTup (vs := mV (trn ((h.1 - h.2.1) / (2 * h.1)))) (pva_cons pv_c (pva_cons (pv_op (pv_op0 (pv_var rfl) (pv_var rfl)) (pv_op pv_c (pv_var rfl) cm) cd) (pva_cons pv_c (pva_cons pv_c pva_nil)))) (by show 4 ≤ sizeLine; decide) fun p np => ?_
        have s1 := same_upd (o := .tup (mV (trn ((h.1 - h.2.1) / (2 * h.1))))) np
        have hp : SqT K (upd H' p (.tup (mV (trn ((h.1 - h.2.1) / (2 * h.1)))))) p (mV (stepM h)) := by
          rw [es]
          exact sqt_of upd_same
        refine ⟨_, rfl, _, rfl, ph, p, h, stepM h, rfl, s1.sqt hH, hp, bh, bS, fun p2 np2 => ?_⟩
        have s2 := same_upd (o := .tup (fV (led h (stepM h)))) np2
        refine ⟨_, rfl, _, rfl, pm, p, M, stepM h, rfl, s2.sqt (s1.sqt hM), s2.sqt hp, bM, bS, fun p3 np3 => ?_⟩
        have s3 := same_upd (o := .tup (mV (mul M (stepM h)))) np3
        exact ⟨_, _, rfl, p2, p3, step h, mul M (stepM h), _, _, _, _, rfl, sm.trans (s1.trans (s2.trans s3)), s3.sqt (sqt_of upd_same), sqt_of upd_same, by rw [det_mul, dM, det_stepM] <;> rfl, by rw [← led_mul, eM] <;> rfl, step_wi ph' wh hl, rk'⟩
end
end K43
namespace K43
open PySem PySem.Spec PyProof.Rows L2
section
variable {P : Program} {w : World} {K : PySem.W.Frag} {mg : Str → Option Value} {base : Heap} (T : Txt K mg)
def sp_is_reduced : Sp := fun vs H Q _ => ∃ (a : Addr) (f : F3), vs = [.ref a] ∧ SqT K H a (fV f) ∧ Pd f ∧ F60 f ∧ ∀ H', Same H H' → Q (.bl (decide (Least f))) H'
theorem ok_is_reduced : FnOk P w K mg base CX0 5 T.a_is_reduced T.d_is_reduced ["form"] (sp_is_reduced (K := K)) := by
  refine T.F_is_reduced.ok c_is_reduced (fun vs H Q E h => ?_) (fun cdv A outer s H vs Q E hr h => ?_)
  · obtain ⟨a, f, rfl, _⟩ := h
    rfl
  · obtain ⟨a, f, rfl, hS, pf, hf, q⟩ := h
    refine ⟨_, PSs.nox (pss_cons (ps_expr (pe_call (ok_require_form T) (hr.mono (by decide)) (by rfl) T.g_require_form T.F_require_form.kp T.b_require_form .nil pass0 (pa_cons (pv 0) pa_nil)))
      (pss_one (ps_ret (pe_call (ok_is_least T) (hr.mono (by decide)) (by rfl) T.g_is_least T.F_is_least.kp T.b_is_least .nil pass0 (pa_cons (pv 0) pa_nil))))), ?_⟩
    exact ⟨.ref a, rfl, a, f, rfl, hS, pf, hf, fun H' sm => ⟨.ref a, rfl, a, f, rfl, sm.sqt hS, q H' sm⟩⟩
def sp_reduced_form : Sp := fun vs H Q _ => ∃ (a : Addr) (f : F3), vs = [.ref a] ∧ SqT K H a (fV f) ∧ Pd f ∧ F60 f ∧ ∀ H' p g, Same H H' → SqT K H' p (fV g) → Red f g → Q (.ref p) H'
theorem ok_reduced_form : FnOk P w K mg base CX0 5 T.a_reduced_form T.d_reduced_form ["form"] (sp_reduced_form (K := K)) := by
  refine T.F_reduced_form.ok c_reduced_form (fun vs H Q E h => ?_) (fun cdv A outer s H vs Q E hr h => ?_)
  · obtain ⟨a, f, rfl, _⟩ := h
    rfl
  · obtain ⟨a, f, rfl, hS, pf, hf, q⟩ := h
    refine ⟨_, PSs.nox (pss_cons (ps_expr (pe_call (ok_require_form T) (hr.mono (by decide)) (by rfl) T.g_require_form T.F_require_form.kp T.b_require_form .nil pass0 (pa_cons (pv 0) pa_nil)))
      (pss_one (ps_ret (pe_ix ix_tup (pe_call (ok_reducing T) (hr.mono (by decide)) (by rfl) T.g_reducing T.F_reducing.kp T.b_reducing .nil pass0 (pa_cons (pv 0) pa_nil)) pe_int (fun _ _ => rfl))))), ?_⟩
    exact ⟨.ref a, rfl, a, f, rfl, hS, pf, hf, fun H' sm => ⟨.ref a, rfl, a, f, rfl, sm.sqt hS, pf, hf.wi, fun H2 p pg pm g m sm2 hp hg hm lg wg dm em =>
      ⟨p, _, 0, .ref pg, rfl, rfl, sqt_of hp, rfl, q H2 pg g (sm.trans sm2) hg ⟨lg, wg, m, dm, em⟩⟩⟩⟩
def sp_reducing_matrix : Sp := fun vs H Q _ => ∃ (a : Addr) (f : F3), vs = [.ref a] ∧ SqT K H a (fV f) ∧ Pd f ∧ F60 f ∧ ∀ H' p m, Same H H' → SqT K H' p (mV m) → det m = 1 → Least (led f m) → Wi G60 (led f m) → Q (.ref p) H'
theorem ok_reducing_matrix : FnOk P w K mg base CX0 5 T.a_reducing_matrix T.d_reducing_matrix ["form"] (sp_reducing_matrix (K := K)) := by
  refine T.F_reducing_matrix.ok c_reducing_matrix (fun vs H Q E h => ?_) (fun cdv A outer s H vs Q E hr h => ?_)
  · obtain ⟨a, f, rfl, _⟩ := h
    rfl
  · obtain ⟨a, f, rfl, hS, pf, hf, q⟩ := h
    refine ⟨_, PSs.nox (pss_cons (ps_expr (pe_call (ok_require_form T) (hr.mono (by decide)) (by rfl) T.g_require_form T.F_require_form.kp T.b_require_form .nil pass0 (pa_cons (pv 0) pa_nil)))
      (pss_one (ps_ret (pe_ix ix_tup (pe_call (ok_reducing T) (hr.mono (by decide)) (by rfl) T.g_reducing T.F_reducing.kp T.b_reducing .nil pass0 (pa_cons (pv 0) pa_nil)) pe_int (fun _ _ => rfl))))), ?_⟩
    exact ⟨.ref a, rfl, a, f, rfl, hS, pf, hf, fun H' sm => ⟨.ref a, rfl, a, f, rfl, sm.sqt hS, pf, hf.wi, fun H2 p pg pm g m sm2 hp hg hm lg wg dm em =>
      ⟨p, _, 1, .ref pm, rfl, rfl, sqt_of hp, rfl, q H2 pm m (sm.trans sm2) hm dm (by rw [em]; exact lg) (by rw [em]; exact wg)⟩⟩⟩
def sp_is_reducing : Sp := fun vs H Q _ => ∃ (a : Addr) (f g : F3) (x : V) (o : Option (List V)), vs = [.ref a, x] ∧ SqT K H a (fV f) ∧ Pd f ∧ F60 f ∧ Red f g ∧ Des K H x o ∧ ∀ H', Same H H' → Q (.bl (rightO f g o)) H'
theorem turnO_true {o : Option (List V)} (h : turnO o = true) : ∃ m : M4, o = some (mV m) ∧ det m = 1 := by
  cases o with
  | none => cases h
  | some xs =>
    have h2 : turnB xs = true := h
    obtain ⟨h3, h4⟩ := turnB_whole h2
    obtain ⟨m, rfl⟩ := whole4 h3 h4
    exact ⟨m, rfl, of_decide_eq_true h2⟩
theorem rightO_false (f g : F3) {o : Option (List V)} (h : turnO o = false) : rightO f g o = false := by
  cases o with
  | none => rfl
  | some xs => exact rightB_eq f g h
theorem des_m {H : Hp} {x : V} {m : M4} (d : Des K H x (some (mV m))) : ∃ b, x = .ref b ∧ SqT K H b (mV m) ∧ mB m := by
  cases d with
  | tup h hl he =>
    have bd : ∀ i : Int, V.int i ∈ mV m → Bd 1000 i := fun i hi => (he _ hi).2 i rfl
    exact ⟨_, rfl, h, bd m.1 (by simp), bd m.2.1 (by simp), bd m.2.2.1 (by simp), bd m.2.2.2 (by simp)⟩
theorem ok_is_reducing : FnOk P w K mg base CX0 5 T.a_is_reducing T.d_is_reducing ["form", "value"] (sp_is_reducing (K := K)) := by
  refine T.F_is_reducing.ok c_is_reducing (fun vs H Q E h => ?_) (fun cdv A outer s H vs Q E hr h => ?_)
  · obtain ⟨a, f, g, x, o, rfl, _⟩ := h
    rfl
  · obtain ⟨a, f, g, x, o, rfl, hS, pf, hf, hg, hx, q⟩ := h
    refine ⟨_, PSs.nox (pss_cons (ps_expr (pe_call (ok_require_form T) (hr.mono (by decide)) (by rfl) T.g_require_form T.F_require_form.kp T.b_require_form .nil pass0 (pa_cons (pv 0) pa_nil)))
      (pss_one (ps_ret (pe_and (pe_call (ok_is_turn T) (hr.mono (by decide)) (by rfl) T.g_is_turn T.F_is_turn.kp T.b_is_turn .nil pass0 (pa_cons (pv 1) pa_nil)) (pe_one (pe_cmpR (r := rEqD K) (op_eqD hr.units) (pe_call (ok_led_by T) (hr.mono (by decide)) (by rfl) T.g_led_by T.F_led_by.kp T.b_led_by .nil pass0 (pa_cons (pv 0) (pa_cons (pv 1) pa_nil))) (pe_ix ix_tup (pe_call (ok_reducing T) (hr.mono (by decide)) (by rfl) T.g_reducing T.F_reducing.kp T.b_reducing .nil pass0 (pa_cons (pv 0) pa_nil)) pe_int (fun _ _ => rfl)) (nomark _))))))), ?_⟩
    refine ⟨.ref a, rfl, a, f, rfl, hS, pf, hf, fun H1 s1 => ⟨x, rfl, x, o, rfl, hx.same s1, fun H2 s2 => ⟨turnO o, rfl, ?_⟩⟩⟩
    have s12 := s1.trans s2
    cases e : turnO o with
    | false =>
      have q2 := q H2 s12
      rw [rightO_false f g e] at q2
      exact iteF q2
    | true =>
      refine iteT ?_
      obtain ⟨m, rfl, dm⟩ := turnO_true e
      obtain ⟨b, rfl, hb, bm⟩ := des_m hx
      refine ⟨.ref a, rfl, .ref b, rfl, a, b, f, m, rfl, s12.sqt hS, s12.sqt hb, wi_fB pf hf.wi, bm, fun p np => ?_⟩
      have s3 := same_upd (o := .tup (fV (led f m))) np
      refine ⟨.ref a, rfl, a, f, rfl, s3.sqt (s12.sqt hS), pf, hf.wi, fun H4 p4 pg pm g' m' s4 hp4 hg' hm' lg' wg' dm' em' => ?_⟩
      obtain rfl : g' = g := Red.uniq pf ⟨lg', wg', m', dm', em'⟩ hg
      refine ⟨p4, _, 0, .ref pg, rfl, rfl, sqt_of hp4, rfl, _, _, dp_f (s4.sqt (sqt_of upd_same)), dp_f hg', sh_f _, sh_f _, ?_⟩
      have q2 := q H4 (s12.trans (s3.trans s4))
      rw [show rightO f g' (some (mV m)) = (decide (det m = 1) && decide (led f m = g')) from rfl, decide_eq_true dm, Bool.true_and] at q2
      rw [eqv_f]
      exact q2
end
end K43
namespace K43
open PySem PySem.Spec PyProof.Rows L2
theorem stepM_part {h : F3} (hp : Pd h) : stepM h = if (h.1 - h.2.1) / (2 * h.1) = 0 then swp else trn ((h.1 - h.2.1) / (2 * h.1)) := by
  unfold stepM
  by_cases c : -h.1 < h.2.1 ∧ h.2.1 ≤ h.1
  · rw [if_pos c, if_pos ((part_zero hp.1).mpr c)]
  · rw [if_neg c, if_neg fun z => c ((part_zero hp.1).mp z)]
section
variable {P : Program} {w : World} {K : PySem.W.Frag} {mg : Str → Option Value} {base : Heap} (T : Txt K mg)
def sp_law_bf_led : Sp := fun vs H Q _ => ∃ (a b : Addr) (f : F3) (m : M4), vs = [.ref a, .ref b] ∧ SqT K H a (fV f) ∧ SqT K H b (mV m) ∧ fB f ∧ mB m ∧ ∀ p, H p = none → Q (.ref p) (upd H p (.tup (fV (led f m))))
theorem ok_law_bf_led : FnOk P w K mg base CX0 1 T.a_law_bf_led T.d_law_bf_led ["_law_form", "_law_matrix"] (sp_law_bf_led (K := K)) := by
  refine T.F_law_bf_led.ok c_law_bf_led (fun vs H Q E h => ?_) (fun cdv A outer s H vs Q E hr h => ?_)
  · obtain ⟨a, b, f, m, rfl, _⟩ := h
    rfl
  · obtain ⟨pa, pb, ⟨a, b, c⟩, ⟨p, q, r, s⟩, rfl, hS, hM, ⟨b1, b2, b3⟩, ⟨m1, m2, m3, m4⟩, k⟩ := h
    refine ⟨_, (pss_cons (ps_asg (pv 0) (pg_tup (by rfl) (pgs_cons (pg_name (i := 2) c_law_bf_led.nd rfl (.inl rfl)) (pgs_cons (pg_name (i := 3) c_law_bf_led.nd rfl (.inl rfl)) (pgs_cons (pg_name (i := 4) c_law_bf_led.nd rfl (.inl rfl)) pgs_nil)))))
      (pss_cons (ps_asg (pv 1) (pg_tup (by rfl) (pgs_cons (pg_name (i := 5) c_law_bf_led.nd rfl (.inl rfl)) (pgs_cons (pg_name (i := 6) c_law_bf_led.nd rfl (.inl rfl)) (pgs_cons (pg_name (i := 7) c_law_bf_led.nd rfl (.inl rfl)) (pgs_cons (pg_name (i := 8) c_law_bf_led.nd rfl (.inl rfl)) pgs_nil))))))
      (pss_cons (ps_par (i := 9) (j := 10) (by rfl) c_law_bf_led.nd rfl rfl (by decide) rfl rfl (pa_cons (pe_op op_mulW (pv 3) (pe_op op_add (pe_op op_mulW (pv 5) (pv 8)) (pe_op op_mulW (pv 6) (pv 7)))) (pa_cons (pe_op op_add (pe_op op_mulW (pe_op op_mulW (pv 2) (pv 5)) (pv 6)) (pe_op op_mulW (pe_op op_mulW (pv 4) (pv 7)) (pv 8))) pa_nil)) (by rfl))
      (pss_one (ps_ret (pe_tup (pa_cons (pe_op op_add (pe_op op_add (pe_op op_mulW (pe_op op_mulW (pv 2) (pv 5)) (pv 5)) (pe_op op_mulW (pe_op op_mulW (pv 3) (pv 5)) (pv 7))) (pe_op op_mulW (pe_op op_mulW (pv 4) (pv 7)) (pv 7))) (pa_cons (pe_op op_add (pv 9) (pe_op op_mulW pe_int (pv 10))) (pa_cons (pe_op op_add (pe_op op_add (pe_op op_mulW (pe_op op_mulW (pv 2) (pv 6)) (pv 6)) (pe_op op_mulW (pe_op op_mulW (pv 3) (pv 6)) (pv 8))) (pe_op op_mulW (pe_op op_mulW (pv 4) (pv 8)) (pv 8))) pa_nil))))))))), ?_⟩
    have bc := Bd.mul b2 (Bd.add (by decide) (by decide) (Bd.mul m1 m4) (Bd.mul m2 m3))
    have bd := Bd.add (by decide) (by decide) (Bd.mul (Bd.mul b1 m1) m2) (Bd.mul (Bd.mul b3 m3) m4)
    have e : led (a, b, c) (p, q, r, s) = (a * p * p + b * p * r + c * r * r, b * (p * s + q * r) + 2 * (a * p * q + c * r * s), a * q * q + b * q * s + c * s * s) := by
      simp only [led, Prod.mk.injEq, true_and, and_true]
      grind
    rw [e] at k
    refine r_un3 rfl hS (r_un4 rfl hM ?_)
    refine r_par (v := .int (b * (p * s + q * r))) (w := .int (a * p * q + c * r * s)) ?_ ?_ ?_
    · apply PB.pv
      walk_at "pb"
    · apply PB.pv
      walk_at "pb"
    · refine r_retTup (pva_cons ?_ (pva_cons ?_ (pva_cons ?_ pva_nil))) (by show 3 ≤ sizeLine; decide) k
      all_goals
        apply PB.pv
        walk_at "pb"
def sp_law_bf_product : Sp := fun vs H Q _ => ∃ (a b : Addr) (m n : M4), vs = [.ref a, .ref b] ∧ SqT K H a (mV m) ∧ SqT K H b (mV n) ∧ mB m ∧ mB n ∧ ∀ p, H p = none → Q (.ref p) (upd H p (.tup (mV (mul m n))))
theorem ok_law_bf_product : FnOk P w K mg base CX0 1 T.a_law_bf_product T.d_law_bf_product ["_law_one", "_law_other"] (sp_law_bf_product (K := K)) := by
  refine T.F_law_bf_product.ok c_law_bf_product (fun vs H Q E h => ?_) (fun cdv A outer s H vs Q E hr h => ?_)
  · obtain ⟨a, b, m, n, rfl, _⟩ := h
    rfl
  · obtain ⟨a, b, m, n, rfl, hS, hM, ⟨b1, b2, b3, b4⟩, ⟨m1, m2, m3, m4⟩, q⟩ := h
    refine ⟨_, (pss_cons (ps_asg (pv 0) (pg_tup (by rfl) (pgs_cons (pg_name (i := 2) c_law_bf_product.nd rfl (.inl rfl)) (pgs_cons (pg_name (i := 3) c_law_bf_product.nd rfl (.inl rfl)) (pgs_cons (pg_name (i := 4) c_law_bf_product.nd rfl (.inl rfl)) (pgs_cons (pg_name (i := 5) c_law_bf_product.nd rfl (.inl rfl)) pgs_nil))))))
      (pss_cons (ps_asg (pv 1) (pg_tup (by rfl) (pgs_cons (pg_name (i := 6) c_law_bf_product.nd rfl (.inl rfl)) (pgs_cons (pg_name (i := 7) c_law_bf_product.nd rfl (.inl rfl)) (pgs_cons (pg_name (i := 8) c_law_bf_product.nd rfl (.inl rfl)) (pgs_cons (pg_name (i := 9) c_law_bf_product.nd rfl (.inl rfl)) pgs_nil))))))
      (pss_one (ps_ret (pe_tup (pa_cons (pe_op op_add (pe_op op_mulW (pv 2) (pv 6)) (pe_op op_mulW (pv 3) (pv 8))) (pa_cons (pe_op op_add (pe_op op_mulW (pv 2) (pv 7)) (pe_op op_mulW (pv 3) (pv 9))) (pa_cons (pe_op op_add (pe_op op_mulW (pv 4) (pv 6)) (pe_op op_mulW (pv 5) (pv 8))) (pa_cons (pe_op op_add (pe_op op_mulW (pv 4) (pv 7)) (pe_op op_mulW (pv 5) (pv 9))) pa_nil))))))))), ?_⟩
    refine r_un4 rfl hS (r_un4 rfl hM ?_)
    refine r_retTup (pva_cons ?_ (pva_cons ?_ (pva_cons ?_ (pva_cons ?_ pva_nil)))) (by show 4 ≤ sizeLine; decide) q
    all_goals
      apply PB.pv
      walk_at "pb"
def sp_law_bf_is_least : Sp := fun vs H Q _ => ∃ (a : Addr) (f : F3), vs = [.ref a] ∧ SqT K H a (fV f) ∧ Q (.bl (decide (Least f))) H
theorem least_bool2 (a b c : Int) : decide (Least (a, b, c)) = ((!(decide (b < -a) || (decide (a < b) || decide (c < a)))) && (decide (0 ≤ b) || (!decide (V.int b = V.int (-a)) && !decide (V.int a = V.int c)))) := by
  rw [Bool.eq_iff_iff, decide_eq_true_iff]
  simp [Least, vint_inj]
theorem ok_law_bf_is_least : FnOk P w K mg base CX0 1 T.a_law_bf_is_least T.d_law_bf_is_least ["_law_form"] (sp_law_bf_is_least (K := K)) := by
  refine T.F_law_bf_is_least.ok c_law_bf_is_least (fun vs H Q E h => ?_) (fun cdv A outer s H vs Q E hr h => ?_)
  · obtain ⟨a, f, rfl, _⟩ := h
    rfl
  · obtain ⟨a, ⟨x, y, z⟩, rfl, hS, q⟩ := h
    refine ⟨_, (pss_cons (ps_asg (pv 0) (pg_tup (by rfl) (pgs_cons (pg_name (i := 1) c_law_bf_is_least.nd rfl (.inl rfl)) (pgs_cons (pg_name (i := 2) c_law_bf_is_least.nd rfl (.inl rfl)) (pgs_cons (pg_name (i := 3) c_law_bf_is_least.nd rfl (.inl rfl)) pgs_nil)))))
      (pss_cons (ps_if (PW.pt (pw_or (pt_cmpR op_lt (pv 2) (pe_un un_neg (pv 1)) (nomark _)) (pw_or (pt_cmpR op_gt (pv 2) (pv 1) (nomark _)) (pw_or1 (pt_cmpR op_lt (pv 3) (pv 1) (nomark _)))))) (pss_one (ps_ret pe_bl)) pss_nil)
      (pss_one (ps_ret (pe_or (pe_cmpR op_ge (pv 2) pe_int (nomark _)) (pe_one (pe_and (pe_cmpR op_ne (pv 2) (pe_un un_neg (pv 1)) (nomark _)) (pe_one (pe_cmpR op_ne (pv 1) (pv 3) (nomark _)))))))))), ?_⟩
    rw [least_bool2] at q
    refine r_un3 rfl hS (r_when (ptv_or (pt_test (pv_op0 (pv_var rfl) (pv_neg (pv_var rfl)))) fun _ => ptv_or (pt_test (pv_op0 (pv_var rfl) (pv_var rfl))) fun _ => pt_test (pv_op0 (pv_var rfl) (pv_var rfl))) (fun e => ?_) fun e => ?_)
    · have e2 : (decide (y < -x) || (decide (x < y) || decide (z < x))) = true := e
      rw [e2] at q
      exact r_ret pv_c q
    · have e2 : (decide (y < -x) || (decide (x < y) || decide (z < x))) = false := e
      rw [e2, Bool.not_false, Bool.true_and] at q
      refine r_ret ?_ q
      exact pv_or (pv_op0 (pv_var rfl) pv_c) fun _ => pv_and (pv_ne (pv_var rfl) (pv_neg (pv_var rfl)) rfl) fun _ => pv_ne (pv_var rfl) (pv_var rfl) rfl
def sp_law_bf_least : Sp := fun vs H Q _ => ∃ (a : Addr) (f : F3), vs = [.ref a] ∧ SqT K H a (fV f) ∧ Pd f ∧ Wi G60 f ∧ reach 4000 f ∧
  ∀ H' p pf pm g m, Same H H' → H' p = some (.tup [.ref pf, .ref pm]) → SqT K H' pf (fV g) → SqT K H' pm (mV m) → Least g → Wi G60 g → det m = 1 → led f m = g → Q (.ref p) H'
theorem ok_law_bf_least : FnOk P w K mg base CX0 2 T.a_law_bf_least T.d_law_bf_least ["_law_form"] (sp_law_bf_least (K := K)) := by
  refine T.F_law_bf_least.ok c_law_bf_least (fun vs H Q E h => ?_) (fun cdv A outer s H vs Q E hr h => ?_)
  · obtain ⟨a, f, rfl, _⟩ := h
    rfl
  · obtain ⟨a, f, rfl, hS, pf, wf, rf, q⟩ := h
    refine ⟨_, PSs.nox (pss_cons (ps_par (i := 1) (j := 2) (by rfl) c_law_bf_least.nd rfl rfl (by decide) rfl rfl (pa_cons (pv 0) (pa_cons (pe_tup (pa_cons pe_int (pa_cons pe_int (pa_cons pe_int (pa_cons pe_int pa_nil))))) pa_nil)) (by rfl))
      (pss_cons (ps_for PassesOwn.never rfl (pi_range1 (by rfl) T.n_range (pa_cons pe_int pa_nil)) (pg_name (i := 3) c_law_bf_least.nd rfl (.inl rfl)) (pss_cons (ps_if (pt_val (pe_call (ok_law_bf_is_least T) (hr.mono (by decide)) (by rfl) T.g_law_bf_is_least T.F_law_bf_is_least.kp T.b_law_bf_is_least .nil pass0 (pa_cons (pv 1) pa_nil))) (pss_one ps_break) pss_nil)
      (pss_cons (ps_set (i := 4) c_law_bf_least.nd rfl (.inl rfl) (pe_op op_fdivW (pe_op op_sub (pe_ix ix_tup (pv 1) pe_int (fun _ _ => rfl)) (pe_ix ix_tup (pv 1) pe_int (fun _ _ => rfl))) (pe_op op_mulW pe_int (pe_ix ix_tup (pv 1) pe_int (fun _ _ => rfl)))))
      (pss_cons (ps_set (i := 5) c_law_bf_least.nd rfl (.inl rfl) (pe_ifExp (pt_cmpR op_ne (pv 4) pe_int (nomark _)) (pe_tup (pa_cons pe_int (pa_cons (pv 4) (pa_cons pe_int (pa_cons pe_int pa_nil))))) (pe_tup (pa_cons pe_int (pa_cons (pe_un un_neg pe_int) (pa_cons pe_int (pa_cons pe_int pa_nil)))))))
      (pss_one (ps_par (i := 1) (j := 2) (by rfl) c_law_bf_least.nd rfl rfl (by decide) rfl rfl (pa_cons (pe_call (ok_law_bf_led T) (hr.mono (by decide)) (by rfl) T.g_law_bf_led T.F_law_bf_led.kp T.b_law_bf_led .nil pass0 (pa_cons (pv 1) (pa_cons (pv 5) pa_nil))) (pa_cons (pe_call (ok_law_bf_product T) (hr.mono (by decide)) (by rfl) T.g_law_bf_product T.F_law_bf_product.kp T.b_law_bf_product .nil pass0 (pa_cons (pv 2) (pa_cons (pv 5) pa_nil))) pa_nil)) (by rfl)))))))
      (pss_one (ps_ret (pe_tup (pa_cons (pv 1) (pa_cons (pv 2) pa_nil))))))), ?_⟩
    refine ⟨_, rfl, (by show 4 ≤ sizeLine; decide), fun p0 np0 => ⟨_, _, rfl, ?_⟩⟩
    have s0 := same_upd (o := .tup (mV idm)) np0
    have fin : ∀ (H' : Hp) (ph pm : Addr) (h : F3) (M : M4) (x3 x4 x5 : Option V), Same H H' → SqT K H' ph (fV h) → SqT K H' pm (mV M) → det M = 1 → led f M = h → Wi G60 h → Least h →
        tRet (tTup (tCons (tVar 1) (tCons (tVar 2) tNil))) { nx := fun x H' => Q V.non H', rt := Q } [some (.ref a), some (.ref ph), some (.ref pm), x3, x4, x5] H' := fun H' ph pm h M x3 x4 x5 sm hH hM dM eM wh hl =>
      r_retTup (pva_cons (pv_var rfl) (pva_cons (pv_var rfl) pva_nil)) (by show 2 ≤ sizeLine; decide) fun p np => q _ p ph pm h M (sm.trans (same_upd np)) upd_same ((same_upd np).sqt hH) ((same_upd np).sqt hM) hl wh dM eM
    refine ⟨4000, rfl, by decide, by decide, for_range (lo := 0) (n := 4000) (fun i σ H' => ∃ (ph pm : Addr) (h : F3) (M : M4) (x3 x4 x5 : Option V), σ = [some (.ref a), some (.ref ph), some (.ref pm), x3, x4, x5] ∧ Same H H' ∧ SqT K H' ph (fV h) ∧ SqT K H' pm (mV M) ∧ det M = 1 ∧ led f M = h ∧ Wi G60 h ∧ reach (4000 - i) h)
      ⟨a, p0, f, idm, none, none, none, rfl, s0, s0.sqt hS, sqt_of upd_same, det_id, led_id f, wf, rf⟩ ?_ ?_⟩
    · rintro i σ H' hi ⟨ph, pm, h, M, x3, x4, x5, rfl, sm, hH, hM, dM, eM, wh, rk⟩
      refine r_when (b := decide (Least h)) (pt_B (pv_call (pva_cons (pv_var rfl) pva_nil) fun Q q => ⟨ph, h, rfl, hH, q⟩)) (fun e => ?_) fun e => ?_
      · exact fin H' ph pm h M _ _ _ sm hH hM dM eM wh (of_decide_eq_true e)
      · have hl : ¬ Least h := of_decide_eq_false e
        obtain ⟨k, ek, rk'⟩ := rk.next hl
        have ek2 : 4000 - (i + 1) = k := by omega
        have ph' : Pd h := eM ▸ pf.led dM
        have ha := ph'.1
        have bh := wi_fB ph' wh
        have bM := wi_mB pf wf (by rw [eM]; exact wh) dM
        have bS : mB (stepM h) := wi_mB ph' wh (step_wi ph' wh hl) (det_stepM h)
        have cd : CDivW (h.1 - h.2.1) (2 * h.1) := wide_div (by omega) (Bd.mul (n := 128) (x := 2) (by decide) bh.1) (by decide) (by decide)
        have cm : CMulW 2 h.1 := wide_mul (a := 128) (b := 1000) (by decide) bh.1 (by decide) (by decide) (by decide)
        refine r_set (v := .int ((h.1 - h.2.1) / (2 * h.1))) (pv_op (pv_op0 (pv_ixT (pv_var rfl) pv_c hH rfl) (pv_ixT (pv_var rfl) pv_c hH rfl)) (pv_op pv_c (pv_ixT (pv_var rfl) pv_c hH rfl) cm) cd) ?_
        refine (pt_test (pv_ne (pv_var rfl) pv_c rfl)) _ ?_
        have next : ∀ p, H' p = none → ∀ σ, σ = [some (V.ref a), some (.ref ph), some (.ref pm), some (.int (0 + (i : Int))), some (.int ((h.1 - h.2.1) / (2 * h.1))), some (.ref p)] →
            ∀ D : Ends, (∀ σ' H2, (∃ (ph pm : Addr) (h : F3) (M : M4) (x3 x4 x5 : Option V), σ' = [some (.ref a), some (.ref ph), some (.ref pm), x3, x4, x5] ∧ Same H H2 ∧ SqT K H2 ph (fV h) ∧ SqT K H2 pm (mV M) ∧ det M = 1 ∧ led f M = h ∧ Wi G60 h ∧ reach (4000 - (i + 1)) h) → D.nx σ' H2) →
            tPar 1 2 (tCons (tCall (sp_law_bf_led (K := K)) [] E0 (tCons (tVar 1) (tCons (tVar 5) tNil))) (tCons (tCall (sp_law_bf_product (K := K)) [] E0 (tCons (tVar 2) (tCons (tVar 5) tNil))) tNil)) D σ (upd H' p (.tup (mV (stepM h)))) := by
          rintro p np σ rfl D hD
          have s1 := same_upd (o := .tup (mV (stepM h))) np
          have hp : SqT K (upd H' p (.tup (mV (stepM h)))) p (mV (stepM h)) := sqt_of upd_same
          refine ⟨_, rfl, _, rfl, ph, p, h, stepM h, rfl, s1.sqt hH, hp, bh, bS, fun p2 np2 => ?_⟩
          have s2 := same_upd (o := .tup (fV (led h (stepM h)))) np2
          refine ⟨_, rfl, _, rfl, pm, p, M, stepM h, rfl, s2.sqt (s1.sqt hM), s2.sqt hp, bM, bS, fun p3 np3 => ?_⟩
          have s3 := same_upd (o := .tup (mV (mul M (stepM h)))) np3
          refine ⟨_, _, rfl, hD _ _ ⟨p2, p3, step h, mul M (stepM h), _, _, _, rfl, sm.trans (s1.trans (s2.trans s3)), s3.sqt (sqt_of upd_same), sqt_of upd_same, by rw [det_mul, dM, det_stepM] <;> rfl, by rw [← led_mul, eM] <;> rfl, step_wi ph' wh hl, ?_⟩⟩
          rw [ek2]
          exact rk'
        by_cases ht : (h.1 - h.2.1) / (2 * h.1) = 0
        · have es : stepM h = swp := by rw [stepM_part ph', if_pos ht]
          have e0 : (!decide (V.int ((h.1 - h.2.1) / (2 * h.1)) = V.int 0)) = false := by
            rw [ht]
            rfl
          rw [e0]
          rw [es] at next
          exact iteF ⟨1, rfl, (by show 4 ≤ sizeLine; decide), fun p np => next p np _ rfl _ fun σ' H2 y => y⟩
        · have es : stepM h = trn ((h.1 - h.2.1) / (2 * h.1)) := by rw [stepM_part ph', if_neg ht]
          have e0 : (!decide (V.int ((h.1 - h.2.1) / (2 * h.1)) = V.int 0)) = true := by
            rw [decide_eq_false fun z => ht (V.int.inj z)]
            rfl
          rw [e0]
          rw [es] at next
          exact iteT ⟨_, rfl, (by show 4 ≤ sizeLine; decide), fun p np => next p np _ rfl _ fun σ' H2 y => y⟩
    · rintro σ H' ⟨ph, pm, h, M, x3, x4, x5, rfl, sm, hH, hM, dM, eM, wh, rk⟩
      exact fin H' ph pm h M _ _ _ sm hH hM dM eM wh rk
end
end K43
namespace K43
open PySem PySem.Spec PyProof.Rows L2
/-! ### the dice -/
abbrev dV (x y z : Int) : HO := .lst [.int x, .int y, .int z]
def Dice (H : Hp) (d : Addr) : Prop := ∃ x y z : Int, H d = some (dV x y z)
/-- all but the dice stays -/
def Fr (d : Addr) (H H' : Hp) : Prop := (∀ b o, b ≠ d → H b = some o → H' b = some o) ∧ Dice H' d
theorem Fr.refl {d : Addr} {H : Hp} (h : Dice H d) : Fr d H H := ⟨fun _ _ _ e => e, h⟩
theorem Fr.upd {d : Addr} {H : Hp} (x y z : Int) : Fr d H (upd H d (dV x y z)) := ⟨fun b o n e => by
  rw [upd_ne n]
  exact e, x, y, z, upd_same⟩
theorem Fr.trans {d : Addr} {H H1 H2 : Hp} (a : Fr d H H1) (b : Fr d H1 H2) : Fr d H H2 := ⟨fun c o n e => b.1 c o n (a.1 c o n e), b.2⟩
theorem Dice.same {d : Addr} {H H' : Hp} (h : Dice H d) (s : Same H H') : Dice H' d := by
  obtain ⟨x, y, z, e⟩ := h
  exact ⟨x, y, z, s _ _ e⟩
theorem Fr.same {d : Addr} {H H1 H2 : Hp} (a : Fr d H H1) (s : Same H1 H2) : Fr d H H2 := ⟨fun c o n e => s c o (a.1 c o n e), a.2.same s⟩
theorem _root_.L2.Same.fr {d : Addr} {H H1 : Hp} (s : Same H H1) (h : Dice H d) : Fr d H H1 := (Fr.refl h).same s
theorem Dice.ne {d a : Addr} {H : Hp} {o : HO} (h : Dice H d) (e : H a = some o) (n : ∀ x y z, o ≠ dV x y z) : a ≠ d := fun q => by
  obtain ⟨x, y, z, e2⟩ := h
  rw [q, e2] at e
  exact n x y z (Option.some.inj e).symm
theorem Fr.tup {d a : Addr} {H H' : Hp} {xs : List V} (f : Fr d H H') (h : Dice H d) (e : H a = some (.tup xs)) : H' a = some (.tup xs) := f.1 a _ (h.ne e fun _ _ _ z => by cases z) e
theorem Fr.sqt {K : PySem.W.Frag} {d a : Addr} {H H' : Hp} {xs : List V} (f : Fr d H H') (h : Dice H d) (e : SqT K H a xs) : SqT K H' a xs := by
  rcases e with (e | ⟨o, e⟩) | e
  · exact .inl (.inl (f.tup h e))
  · exact .inl (.inr ⟨o, f.1 a _ (h.ne e fun _ _ _ z => by cases z) e⟩)
  · exact .inr e
theorem r_setL {σ : L2.St} {H : Hp} {D : Ends} {te : TE} {tz : TS} {i : Nat} {k : Int} {v : V} {p : Addr} {xs : List V} {j : Nat} (hv : PV te σ H v) (ho : σ[i]? = some (some (.ref p))) (hp : H p = some (.lst xs)) (hj : ixN xs.length k = some j)
    (q : tz D σ (upd H p (.lst (xs.set j v)))) : tSeq (tAsg te (gSub (tVar i) (tC (.int k)) rSetL)) tz D σ H := hv _ ⟨_, ho, p, xs, k, j, rfl, rfl, hp, hj, q⟩
theorem r_retLst {σ : L2.St} {H : Hp} {D : Ends} {t : TA} {vs : List V} (h : PVa t σ H vs) (hl : vs.length ≤ sizeLine) (q : ∀ p, H p = none → D.rt (.ref p) (upd H p (.lst vs))) : tRet (tLst t) D σ H := h _ ⟨hl, q⟩
theorem pv_int {σ : L2.St} {H : Hp} {te : TE} {i : Int} (h : PV te σ H (.int i)) : PV (tCB (fun xs H Q => (∃ i, xs = [.int i] ∧ Q (.int i) H) ∨ ∃ k, xs = [.bl k] ∧ Q (.int (if k then 1 else 0)) H) (tCons te tNil)) σ H (.int i) :=
  pv_callB (pva_cons h pva_nil) fun _ q => .inl ⟨i, rfl, q⟩
theorem pv_intB {σ : L2.St} {H : Hp} {te : TE} {k : Bool} (h : PV te σ H (.bl k)) : PV (tCB (fun xs H Q => (∃ i, xs = [.int i] ∧ Q (.int i) H) ∨ ∃ k, xs = [.bl k] ∧ Q (.int (if k then 1 else 0)) H) (tCons te tNil)) σ H (.int (if k then 1 else 0)) :=
  pv_callB (pva_cons h pva_nil) fun _ q => .inr ⟨k, rfl, q⟩
theorem pv_abs {σ : L2.St} {H : Hp} {te : TE} {i : Int} (h : PV te σ H (.int i)) : PV (tCB (fun xs H Q => ∃ i, xs = [.int i] ∧ Q (.int (if i < 0 then -i else i)) H) (tCons te tNil)) σ H (.int (if i < 0 then -i else i)) :=
  pv_callB (pva_cons h pva_nil) fun _ q => ⟨i, rfl, q⟩
theorem pv_max {σ : L2.St} {H : Hp} {te tf : TE} {i j : Int} (h : PV te σ H (.int i)) (h2 : PV tf σ H (.int j)) : PV (tCB (fun xs H Q => ∃ i j, xs = [.int i, .int j] ∧ Q (.int (if j > i then j else i)) H) (tCons te (tCons tf tNil))) σ H (.int (if j > i then j else i)) :=
  pv_callB (pva_cons h (pva_cons h2 pva_nil)) fun _ q => ⟨i, j, rfl, q⟩
theorem pv_if {σ : L2.St} {H : Hp} {t : TT} {ta tb : TE} {b : Bool} {v : V} (h : PTv t σ H b) (h1 : b = true → PV ta σ H v) (h2 : b = false → PV tb σ H v) : PV (tIf t ta tb) σ H v := fun Q q => h _ (by
  cases b with
  | true => exact iteT (h1 rfl _ q)
  | false => exact iteF (h2 rfl _ q))
section
variable {P : Program} {w : World} {K : PySem.W.Frag} {mg : Str → Option Value} {base : Heap} (T : Txt K mg)
def sp_law_roll : Sp := fun vs H Q _ => ∃ (d : Addr) (t : Int), vs = [.ref d, .int t] ∧ Dice H d ∧ 0 < t ∧ t < 1073741824 ∧ ∀ r y0 y1 y2 : Int, 0 ≤ r → r < t → Q (.int r) (upd H d (dV y0 y1 y2))
theorem ok_law_roll : FnOk P w K mg base CX0 1 T.a_law_roll T.d_law_roll ["_law_dice_here", "_law_total"] sp_law_roll := by
  refine T.F_law_roll.ok c_law_roll (fun vs H Q E h => ?_) (fun cdv A outer s H vs Q E hr h => ?_)
  · obtain ⟨d, t, rfl, _⟩ := h
    rfl
  · obtain ⟨d, t, rfl, ⟨x, y, z, hd⟩, t0, t1, q⟩ := h
    refine ⟨_, PSs.nox (pss_cons (ps_if (pt_cmpR op_gt (pe_ix ix_list (pv 0) pe_int (fun _ _ => rfl)) pe_int (nomark _)) (pss_cons (ps_set (i := 2) c_law_roll.nd rfl (.inl rfl) (pe_op op_mod (pe_callTy call_int1 (by rfl) T.n_int (by decide +kernel) (pa_cons (pe_ix ix_list (pv 0) pe_int (fun _ _ => rfl)) pa_nil)) (pv 1)))
      (pss_cons (ps_asg (pe_op op_fdivW (pe_ix ix_list (pv 0) pe_int (fun _ _ => rfl)) (pv 1)) (pg_sub (pv 0) pe_int set_list))
      (pss_one (ps_ret (pv 2))))) pss_nil)
      (pss_cons (ps_asg (pe_op op_add (pe_ix ix_list (pv 0) pe_int (fun _ _ => rfl)) pe_int) (pg_sub (pv 0) pe_int set_list))
      (pss_cons (ps_set (i := 3) c_law_roll.nd rfl (.inl rfl) (pe_op op_mod (pe_callTy call_int1 (by rfl) T.n_int (by decide +kernel) (pa_cons (pe_op op_add (pe_ix ix_list (pv 0) pe_int (fun _ _ => rfl)) (pe_op op_mul pe_int (pe_ix ix_list (pv 0) pe_int (fun _ _ => rfl)))) pa_nil)) pe_int))
      (pss_cons (ps_set (i := 4) c_law_roll.nd rfl (.inl rfl) (pe_op op_add (pe_op op_mul (pe_op op_mod (pe_callTy call_int1 (by rfl) T.n_int (by decide +kernel) (pa_cons (pe_op op_add (pe_op op_mul (pv 3) (pv 3)) (pe_op op_mul pe_int (pe_ix ix_list (pv 0) pe_int (fun _ _ => rfl)))) pa_nil)) pe_int) pe_int) (pv 3)))
      (pss_one (ps_ret (pe_op op_mod (pe_callTy call_int1 (by rfl) T.n_int (by decide +kernel) (pa_cons (pe_op op_fdivW (pv 4) pe_int) pa_nil)) (pv 1)))))))), ?_⟩
    have hS : SqL K H d [.int x, .int y, .int z] := sql_of hd
    have bt : t.natAbs < 2 ^ 30 := by omega
    refine r_when (pt_test (pv_op0 (pv_ixL (pv_var rfl) pv_c hS rfl) pv_c)) (fun _ => ?_) fun _ => ?_
    · refine r_set (pv_op (pv_int (pv_ixL (pv_var rfl) pv_c hS rfl)) (pv_var rfl) t0) ?_
      refine r_setL (pv_op (pv_ixL (pv_var rfl) pv_c hS rfl) (pv_var rfl) (wide_div (b := 30) t0 bt (by decide) (by decide))) rfl hd rfl ?_
      exact r_ret (pv_var rfl) (q _ _ _ _ (Int.emod_nonneg _ (by omega)) (Int.emod_lt_of_pos _ t0))
    · refine r_setL (pv_op0 (pv_ixL (pv_var rfl) pv_c hS rfl) pv_c) rfl hd rfl ?_
      have hS2 : SqL K (upd H d (.lst [.int x, .int y, .int (z + 1)])) d [.int x, .int y, .int (z + 1)] := sql_of upd_same
      refine r_set (pv_op (pv_int (pv_op0 (pv_ixL (pv_var rfl) pv_c hS2 rfl) (pv_op pv_c (pv_ixL (pv_var rfl) pv_c hS2 rfl) (.inl ⟨by decide, by decide⟩)))) pv_c (by show (0 : Int) < 2305843009213693921; decide)) ?_
      generalize ho : (y + 49979687 * (z + 1)) % 2305843009213693921 = o
      have o1 : 0 ≤ o := by
        rw [← ho]
        exact Int.emod_nonneg _ (by decide)
      have o2 : o < 2305843009213693921 := by
        rw [← ho]
        exact Int.emod_lt_of_pos _ (by decide)
      have co : CMul o o := .inl ⟨by omega, by omega⟩
      have m1 := Int.emod_nonneg (o * o + 131 * (z + 1)) (b := 2305843009213693907) (by decide)
      have m2 := Int.emod_lt_of_pos (o * o + 131 * (z + 1)) (b := 2305843009213693907) (by decide)
      have cm : CMul ((o * o + 131 * (z + 1)) % 2305843009213693907) 7778777 := .inr ⟨by decide, by decide⟩
      refine r_set (pv_op0 (pv_op (pv_op (pv_int (pv_op0 (pv_op (pv_var rfl) (pv_var rfl) co) (pv_op pv_c (pv_ixL (pv_var rfl) pv_c hS2 rfl) (.inl ⟨by decide, by decide⟩)))) pv_c (by show (0 : Int) < 2305843009213693907; decide)) pv_c cm) (pv_var rfl)) ?_
      exact r_ret (pv_op (pv_int (pv_op (pv_var rfl) pv_c (wide_div (b := 30) (by decide) (by decide) (by decide) (by decide)))) (pv_var rfl) t0) (q _ _ _ _ (Int.emod_nonneg _ (by omega)) (Int.emod_lt_of_pos _ t0))
def sp_law_pick : Sp := fun vs H Q _ => ∃ (d a : Addr) (xs : List V), vs = [.ref d, .ref a] ∧ Dice H d ∧ a ≠ d ∧ H a = some (.lst xs) ∧ 0 < xs.length ∧ xs.length < 1000 ∧ ∀ (i : Nat) (v : V) (y0 y1 y2 : Int), xs[i]? = some v → Q v (upd H d (dV y0 y1 y2))
theorem ok_law_pick : FnOk P w K mg base CX0 2 T.a_law_pick T.d_law_pick ["_law_dice_here", "_law_items"] sp_law_pick := by
  refine T.F_law_pick.ok c_law_pick (fun vs H Q E h => ?_) (fun cdv A outer s H vs Q E hr h => ?_)
  · obtain ⟨d, a, xs, rfl, _⟩ := h
    rfl
  · obtain ⟨d, a, xs, rfl, hd, ne, ha, l0, l1, q⟩ := h
    refine ⟨_, PSs.nox (pss_one (ps_ret (pe_ix ix_list (pv 1) (pe_call (ok_law_roll T) (hr.mono (by decide)) (by rfl) T.g_law_roll T.F_law_roll.kp T.b_law_roll .nil pass0 (pa_cons (pv 0) (pa_cons (pe_callB call_len (by rfl) T.n_len (by decide +kernel) (pa_cons (pv 1) pa_nil)) pa_nil))) (fun _ _ => rfl)))), ?_⟩
    refine ⟨.ref a, rfl, .ref d, rfl, .ref a, rfl, .ref a, xs.length, rfl, .inl ⟨_, sql_of ha, rfl⟩, d, _, rfl, hd, by omega, by omega, fun r y0 y1 y2 r0 r1 => ?_⟩
    have hr' : r.toNat < xs.length := by omega
    obtain ⟨v, e⟩ : ∃ v, xs[r.toNat]? = some v := ⟨_, List.getElem?_eq_getElem hr'⟩
    have e2 : ((r.toNat : Nat) : Int) = r := by omega
    have e3 := atI_nat e
    rw [e2] at e3
    exact ⟨a, xs, r, v, rfl, rfl, sql_of (by rw [upd_ne ne]; exact ha), e3, q r.toNat _ y0 y1 y2 e⟩
def sp_law_dice : Sp := fun vs H Q _ => ∃ (a : Addr) (ns : List Int) (k : Int), vs = [.ref a, .int k] ∧ SqL K H a (ns.map V.int) ∧ ns.length ≤ 1000 ∧ 0 ≤ k ∧ k ≤ 2 ∧ ∀ (p : Addr) (x y z : Int), H p = none → Q (.ref p) (upd H p (dV x y z))
theorem ok_law_dice : FnOk P w K mg base CX0 1 T.a_law_dice T.d_law_dice ["_law_script", "_law_spot"] (sp_law_dice (K := K)) := by
  refine T.F_law_dice.ok c_law_dice (fun vs H Q E h => ?_) (fun cdv A outer s H vs Q E hr h => ?_)
  · obtain ⟨a, ns, k, rfl, _⟩ := h
    rfl
  · obtain ⟨a, ns, k, rfl, hS, hl, k0, k1, q⟩ := h
    refine ⟨_, PSs.nox (pss_cons (ps_set (i := 2) c_law_dice.nd rfl (.inl rfl) (pe_ifExp (pt_cmpR op_lt (pv 1) (pe_callB call_len (by rfl) T.n_len (by decide +kernel) (pa_cons (pv 0) pa_nil)) (nomark _)) (pe_callTy call_int1 (by rfl) T.n_int (by decide +kernel) (pa_cons (pe_ix ix_list (pv 0) (pv 1) (fun _ _ => rfl)) pa_nil)) (pe_op op_add (pe_op op_mul pe_int (pv 1)) pe_int)))
      (pss_cons (ps_set (i := 3) c_law_dice.nd rfl (.inl rfl) (pe_op op_mod (pe_callB (call_max2 rfl) (by rfl) T.n_max (by decide +kernel) (pa_cons pe_int (pa_cons (pe_op op_sub (pe_callB call_abs (by rfl) T.n_abs (by decide +kernel) (pa_cons (pv 2) pa_nil)) (pe_op op_pow pe_int pe_int)) pa_nil))) (pe_op op_mulW (pe_op op_pow pe_int pe_int) (pe_op op_pow pe_int pe_int))))
      (pss_one (ps_ret (pe_lst (pa_cons (pv 3) (pa_cons (pe_op op_add (pe_op op_add (pe_op op_add (pe_op op_mul (pe_op op_mod (pe_callB call_abs (by rfl) T.n_abs (by decide +kernel) (pa_cons (pv 2) pa_nil)) pe_int) pe_int) (pe_op op_mul pe_int (pv 1))) (pe_op op_mul pe_int (pe_callTy call_int1 (by rfl) T.n_int (by decide +kernel) (pa_cons (pe_cmpR op_lt (pv 2) pe_int (nomark _)) pa_nil)))) pe_int) (pa_cons pe_int pa_nil)))))))), ?_⟩
    have ck : CMul 71 k := .inl ⟨by decide, by decide⟩
    have len : PV (tCB (fun xs H Q => ∃ x n, xs = [x] ∧ LenV K x H n ∧ Q (.int n) H) (tCons (tVar 0) tNil)) (L2.start ["_law_script", "_law_spot", "_law_cell", "_law_left"] [V.ref a, V.int k]) H (.int ((ns.map V.int).length : Int)) :=
      pv_callB (pva_cons (pv_var rfl) pva_nil) fun Q q => ⟨.ref a, (ns.map V.int).length, rfl, .inl ⟨_, hS, rfl⟩, q⟩
    obtain ⟨c, hc⟩ : ∃ c : Int, ∀ t : Bool, t = decide (k < ((ns.map V.int).length : Int)) → (t = true → PV (tCB (fun xs H Q => (∃ i, xs = [.int i] ∧ Q (.int i) H) ∨ ∃ k, xs = [.bl k] ∧ Q (.int (if k then 1 else 0)) H) (tCons (tOp (rIxL K) (tVar 0) (tVar 1)) tNil)) (L2.start ["_law_script", "_law_spot", "_law_cell", "_law_left"] [V.ref a, V.int k]) H (.int c)) ∧
        (t = false → PV (tOp (rI0 fun i j => V.int (i + j)) (tOp (rI CMul fun i j => V.int (i * j)) (tC (V.int 71)) (tVar 1)) (tC (V.int 23))) (L2.start ["_law_script", "_law_spot", "_law_cell", "_law_left"] [V.ref a, V.int k]) H (.int c)) := by
      by_cases hk : k < ((ns.map V.int).length : Int)
      · rw [List.length_map] at hk
        have hk2 : k.toNat < ns.length := by omega
        refine ⟨ns[k.toNat], fun t ht => ⟨fun _ => ?_, fun e => ?_⟩⟩
        · refine pv_int (pv_ixL (pv_var rfl) (pv_var rfl) hS ?_)
          have e2 : ((k.toNat : Nat) : Int) = k := by omega
          have e3 : (ns.map V.int)[k.toNat]? = some (.int ns[k.toNat]) := by
            rw [List.getElem?_map, List.getElem?_eq_getElem hk2]
            rfl
          have e4 := atI_nat e3
          rw [e2] at e4
          exact e4
        · rw [ht, List.length_map, decide_eq_true hk] at e
          cases e
      · refine ⟨71 * k + 23, fun t ht => ⟨fun e => ?_, fun _ => pv_op0 (pv_op pv_c (pv_var rfl) ck) pv_c⟩⟩
        rw [ht, decide_eq_false hk] at e
        cases e
    have hc2 := hc _ rfl
    refine r_set (v := .int c) (pv_if (pt_test (pv_op0 (pv_var rfl) len)) hc2.1 hc2.2) ?_
    have cw : CMulW ((10 : Int) ^ (59 : Int).toNat) ((10 : Int) ^ (60 : Int).toNat) := by
      unfold CMulW
      decide +kernel
    have cp : (0 : Int) < (10 : Int) ^ (59 : Int).toNat * (10 : Int) ^ (60 : Int).toNat := by decide +kernel
    have p1 : CPow 10 17 := ⟨by decide, by decide, by decide⟩
    have p2 : CPow 10 59 := ⟨by decide, by decide, by decide⟩
    have p3 : CPow 10 60 := ⟨by decide, by decide, by decide⟩
    refine r_set (pv_op (pv_max pv_c (pv_op0 (pv_abs (pv_var rfl)) (pv_op pv_c pv_c p1))) (pv_op (pv_op pv_c pv_c p2) (pv_op pv_c pv_c p3) cw) cp) ?_
    have cm1 : CMul ((if c < 0 then -c else c) % 1152921504606846883) 61 := .inr ⟨by decide, by decide⟩
    have cm2 : CMul 877 k := .inl ⟨by decide, by decide⟩
    have cm3 : CMul 37 (if decide (c < 0) = true then 1 else 0) := .inl ⟨by decide, by decide⟩
    refine r_retLst (pva_cons (pv_var rfl) (pva_cons (pv_op0 (pv_op0 (pv_op0 (pv_op (pv_op (pv_abs (pv_var rfl)) pv_c (by show (0 : Int) < 1152921504606846883; decide)) pv_c cm1) (pv_op pv_c (pv_var rfl) cm2)) (pv_op pv_c (pv_intB (pv_op0 (pv_var rfl) pv_c)) cm3)) pv_c) (pva_cons pv_c pva_nil))) (by show 3 ≤ sizeLine; decide) fun p np => ?_
    exact q p _ _ _ np
/-- a drawn form -/
def Dr (f : F3) : Prop := 0 < f.1 ∧ f.1 ≤ 10000000 ∧ -10000000 ≤ f.2.1 ∧ f.2.1 ≤ 10000000 ∧ f.2.2 ≤ 100000000000000 ∧ 0 < disc f
theorem dr_of {a b r : Int} (a0 : 0 < a) (a1 : a ≤ 10000000) (b0 : -10000000 ≤ b) (b1 : b ≤ 10000000) (r0 : 0 ≤ r) (r1 : r < 10000000) : Dr (a, b, b * b / (4 * a) + 1 + r) := by
  have h1 := Int.mul_ediv_add_emod (b * b) (4 * a)
  have h2 := Int.emod_nonneg (b * b) (show 4 * a ≠ 0 by omega)
  have h3 := Int.emod_lt_of_pos (b * b) (show 0 < 4 * a by omega)
  have h4 : b * b ≤ 10000000 * 10000000 := abs_le_sq b0 b1
  have h5 : b * b / (4 * a) ≤ b * b := Int.ediv_le_self _ (sq_nn b)
  refine ⟨a0, a1, b0, b1, ?_, ?_⟩
  · show b * b / (4 * a) + 1 + r ≤ 100000000000000
    have h6 : b * b / (4 * a) ≤ 10000000 * 10000000 / 4 := by
      have h7 : 0 ≤ b * b / (4 * a) := Int.ediv_nonneg (sq_nn b) (by omega)
      have h8 : 4 * (b * b / (4 * a)) ≤ 4 * a * (b * b / (4 * a)) := Int.mul_le_mul_of_nonneg_right (by omega) h7
      omega
    omega
  · show 0 < 4 * a * (b * b / (4 * a) + 1 + r) - b * b
    have h6 : 0 ≤ 4 * a * r := Int.mul_nonneg (by omega) r0
    have h7 : 4 * a * (b * b / (4 * a) + 1 + r) = 4 * a * (b * b / (4 * a)) + 4 * a + 4 * a * r := by grind
    omega
def sp_law_bf_drawn : Sp := fun vs H Q _ => ∃ (d : Addr) (t : Int), vs = [.ref d, .int t] ∧ Dice H d ∧ 0 < t ∧ t ≤ 10000000 ∧ ∀ H' p f, Fr d H H' → H' p = some (.tup (fV f)) → Dr f → Q (.ref p) H'
theorem ok_law_bf_drawn : FnOk P w K mg base CX0 2 T.a_law_bf_drawn T.d_law_bf_drawn ["_law_dice_here", "_law_high"] sp_law_bf_drawn := by
  refine T.F_law_bf_drawn.ok c_law_bf_drawn (fun vs H Q E h => ?_) (fun cdv A outer s H vs Q E hr h => ?_)
  · obtain ⟨d, t, rfl, _⟩ := h
    rfl
  · obtain ⟨d, t, rfl, hd, t0, t1, q⟩ := h
    refine ⟨_, PSs.nox (pss_cons (ps_par (i := 2) (j := 3) (by rfl) c_law_bf_drawn.nd rfl rfl (by decide) rfl rfl (pa_cons (pe_op op_add pe_int (pe_call (ok_law_roll T) (hr.mono (by decide)) (by rfl) T.g_law_roll T.F_law_roll.kp T.b_law_roll .nil pass0 (pa_cons (pv 0) (pa_cons (pv 1) pa_nil)))) (pa_cons (pe_op op_sub (pe_call (ok_law_roll T) (hr.mono (by decide)) (by rfl) T.g_law_roll T.F_law_roll.kp T.b_law_roll .nil pass0 (pa_cons (pv 0) (pa_cons (pe_op op_add (pe_op op_mulW pe_int (pv 1)) pe_int) pa_nil))) (pv 1)) pa_nil)) (by rfl))
      (pss_one (ps_ret (pe_tup (pa_cons (pv 2) (pa_cons (pv 3) (pa_cons (pe_op op_add (pe_op op_add (pe_op op_fdivW (pe_op op_mulW (pv 3) (pv 3)) (pe_op op_mulW pe_int (pv 2))) pe_int) (pe_call (ok_law_roll T) (hr.mono (by decide)) (by rfl) T.g_law_roll T.F_law_roll.kp T.b_law_roll .nil pass0 (pa_cons (pv 0) (pa_cons (pv 1) pa_nil)))) pa_nil))))))), ?_⟩
    have bt : t.natAbs < 2 ^ 30 := by omega
    refine ⟨.ref d, rfl, .int t, rfl, d, t, rfl, hd, t0, by omega, fun r y0 y1 y2 r0 r1 => ⟨1, r, rfl, rfl, ?_⟩⟩
    have f1 : Fr d H (upd H d (dV y0 y1 y2)) := Fr.upd y0 y1 y2
    refine ⟨.ref d, rfl, .int t, rfl, 2, t, rfl, rfl, wide_mul (a := 128) (b := 30) (by decide) bt (by decide) (by decide) (by decide), _, _, rfl, rfl, d, _, rfl, f1.2, by omega, by omega, fun u z0 z1 z2 u0 u1 => ⟨.int t, rfl, u, t, rfl, rfl, _, _, rfl, ?_⟩⟩
    have f2 : Fr d H (upd (upd H d (dV y0 y1 y2)) d (dV z0 z1 z2)) := f1.trans (Fr.upd z0 z1 z2)
    have bb : (u - t).natAbs < 2 ^ 30 := by omega
    have ba : (1 + r).natAbs < 2 ^ 30 := by omega
    have b4 : (4 * (1 + r)).natAbs < 2 ^ 32 := by omega
    refine ⟨_, rfl, _, rfl, _, rfl, _, rfl, _, _, rfl, rfl, wide_mul bb bb (by decide) (by decide) (by decide), _, rfl, _, _, rfl, rfl, wide_mul (a := 128) (b := 30) (by decide) ba (by decide) (by decide) (by decide), _, _, rfl, rfl, wide_div (by omega) b4 (by decide) (by decide), _, _, rfl, rfl, .ref d, rfl, .int t, rfl, d, t, rfl, f2.2, t0, by omega, fun r3 w0 w1 w2 r30 r31 => ⟨_, _, rfl, rfl, (by show 3 ≤ sizeLine; decide), fun p np => ?_⟩⟩
    exact q _ p (1 + r, u - t, (u - t) * (u - t) / (4 * (1 + r)) + 1 + r3) ((f2.trans (Fr.upd w0 w1 w2)).same (same_upd np)) upd_same (dr_of (by omega) (by omega) (by omega) (by omega) r30 (by omega))
end
end K43
namespace K43
open PySem PySem.Spec PyProof.Rows L2
/-! ### drawn matrices -/
def Wn (n : Int) (m : M4) : Prop := (-n ≤ m.1 ∧ m.1 ≤ n) ∧ (-n ≤ m.2.1 ∧ m.2.1 ≤ n) ∧ (-n ≤ m.2.2.1 ∧ m.2.2.1 ≤ n) ∧ (-n ≤ m.2.2.2 ∧ m.2.2.2 ≤ n)
theorem Wn.mono {n k : Int} {m : M4} (h : Wn n m) (l : n ≤ k) : Wn k m := by
  obtain ⟨h1, h2, h3, h4⟩ := h
  exact ⟨by omega, by omega, by omega, by omega⟩
theorem Wn.mB {n : Int} {m : M4} (h : Wn n m) (l : n ≤ 2 ^ 900) : mB m := by
  obtain ⟨h1, h2, h3, h4⟩ := h
  have k : (2 : Int) ^ 900 < 2 ^ 1000 := by decide +kernel
  exact ⟨Bd.of h1 (by omega), Bd.of h2 (by omega), Bd.of h3 (by omega), Bd.of h4 (by omega)⟩
def St (S : M4) : Prop := S = swp ∨ ∃ t, (-9 ≤ t ∧ t ≤ 9) ∧ (S = trn t ∨ S = (1, 0, t, 1))
theorem St.det {S : M4} (h : St S) : det S = 1 := by
  rcases h with rfl | ⟨t, _, rfl | rfl⟩
  · decide
  · simp [K43.det, trn]
  · simp [K43.det]
theorem St.wn {S : M4} (h : St S) : Wn 9 S := by
  rcases h with rfl | ⟨t, ht, rfl | rfl⟩
  · unfold swp Wn
    decide
  · unfold trn Wn
    simp only
    omega
  · unfold Wn
    simp only
    omega
theorem mul9 {n p t : Int} (hp : -n ≤ p ∧ p ≤ n) (ht : -9 ≤ t ∧ t ≤ 9) : -(9 * n) ≤ p * t ∧ p * t ≤ 9 * n := by
  have e : (p * t).natAbs = p.natAbs * t.natAbs := Int.natAbs_mul p t
  have h : p.natAbs * t.natAbs ≤ n.natAbs * 9 := Nat.mul_le_mul (by omega) (by omega)
  omega
theorem St.mul {n : Int} {M S : M4} (h : Wn n M) (hS : St S) : Wn (10 * n) (mul M S) := by
  obtain ⟨p, q, r, s⟩ := M
  obtain ⟨h1, h2, h3, h4⟩ := h
  simp only at h1 h2 h3 h4
  rcases hS with rfl | ⟨t, ht, rfl | rfl⟩
  · simp only [Wn, K43.mul, swp]
    omega
  · have a1 := mul9 h1 ht
    have a3 := mul9 h3 ht
    simp only [Wn, K43.mul, trn]
    omega
  · have a1 := mul9 h2 ht
    have a3 := mul9 h4 ht
    simp only [Wn, K43.mul]
    omega
def ten (i : Nat) : Int := ((10 ^ i : Nat) : Int)
theorem ten_succ (i : Nat) : ten (i + 1) = 10 * ten i := by
  unfold ten
  rw [Nat.pow_succ]
  omega
theorem ten_le {i : Nat} (h : i ≤ 10) : ten i ≤ 10000000000 := by
  have := Nat.pow_le_pow_right (n := 10) (by decide) h
  unfold ten
  omega
theorem ten_le9 {i : Nat} (h : i ≤ 9) : ten i ≤ 1000000000 := by
  have := Nat.pow_le_pow_right (n := 10) (by decide) h
  unfold ten
  omega
theorem pick4 {H : Hp} {p0 p1 p2 p3 : Addr} {S0 S1 S2 S3 : M4} (h0 : H p0 = some (.tup (mV S0)) ∧ St S0) (h1 : H p1 = some (.tup (mV S1)) ∧ St S1) (h2 : H p2 = some (.tup (mV S2)) ∧ St S2) (h3 : H p3 = some (.tup (mV S3)) ∧ St S3)
    {i : Nat} {v : V} (h : [V.ref p0, V.ref p1, V.ref p2, V.ref p3][i]? = some v) : ∃ p S, v = .ref p ∧ H p = some (.tup (mV S)) ∧ St S := by
  match i, h with
  | 0, h => exact ⟨p0, S0, (Option.some.inj h).symm, h0⟩
  | 1, h => exact ⟨p1, S1, (Option.some.inj h).symm, h1⟩
  | 2, h => exact ⟨p2, S2, (Option.some.inj h).symm, h2⟩
  | 3, h => exact ⟨p3, S3, (Option.some.inj h).symm, h3⟩
  | i + 4, h => cases h
section
variable {P : Program} {w : World} {K : PySem.W.Frag} {mg : Str → Option Value} {base : Heap} (T : Txt K mg)
def sp_law_bf_matrix : Sp := fun vs H Q _ => ∃ (d : Addr) (t : Int), vs = [.ref d, .int t] ∧ Dice H d ∧ 0 ≤ t ∧ t ≤ 9 ∧ ∀ H' p m, Fr d H H' → H' p = some (.tup (mV m)) → det m = 1 → Wn 1000000000 m → Q (.ref p) H'
theorem ok_law_bf_matrix : FnOk P w K mg base CX0 3 T.a_law_bf_matrix T.d_law_bf_matrix ["_law_dice_here", "_law_most"] sp_law_bf_matrix := by
  refine T.F_law_bf_matrix.ok c_law_bf_matrix (fun vs H Q E h => ?_) (fun cdv A outer s H vs Q E hr h => ?_)
  · obtain ⟨d, t, rfl, _⟩ := h
    rfl
  · obtain ⟨d, t, rfl, hd, t0, t1, q⟩ := h
    refine ⟨_, PSs.nox (pss_cons (ps_set (i := 2) c_law_bf_matrix.nd rfl (.inl rfl) (pe_tup (pa_cons pe_int (pa_cons pe_int (pa_cons pe_int (pa_cons pe_int pa_nil))))))
      (pss_cons (ps_for PassesOwn.never rfl (pi_range1 (by rfl) T.n_range (pa_cons (pe_call (ok_law_roll T) (hr.mono (by decide)) (by rfl) T.g_law_roll T.F_law_roll.kp T.b_law_roll .nil pass0 (pa_cons (pv 0) (pa_cons (pe_op op_add (pv 1) pe_int) pa_nil))) pa_nil)) (pg_name (i := 3) c_law_bf_matrix.nd rfl (.inl rfl)) (pss_cons (ps_set (i := 4) c_law_bf_matrix.nd rfl (.inl rfl) (pe_op op_add pe_int (pe_call (ok_law_roll T) (hr.mono (by decide)) (by rfl) T.g_law_roll T.F_law_roll.kp T.b_law_roll .nil pass0 (pa_cons (pv 0) (pa_cons pe_int pa_nil)))))
      (pss_cons (ps_set (i := 5) c_law_bf_matrix.nd rfl (.inl rfl) (pe_call (ok_law_pick T) (hr.mono (by decide)) (by rfl) T.g_law_pick T.F_law_pick.kp T.b_law_pick .nil pass0 (pa_cons (pv 0) (pa_cons (pe_lst (pa_cons (pe_tup (pa_cons pe_int (pa_cons (pe_un un_neg pe_int) (pa_cons pe_int (pa_cons pe_int pa_nil))))) (pa_cons (pe_tup (pa_cons pe_int (pa_cons (pv 4) (pa_cons pe_int (pa_cons pe_int pa_nil))))) (pa_cons (pe_tup (pa_cons pe_int (pa_cons pe_int (pa_cons (pe_un un_neg (pv 4)) (pa_cons pe_int pa_nil))))) (pa_cons (pe_tup (pa_cons pe_int (pa_cons (pe_un un_neg (pv 4)) (pa_cons pe_int (pa_cons pe_int pa_nil))))) pa_nil))))) pa_nil))))
      (pss_one (ps_set (i := 2) c_law_bf_matrix.nd rfl (.inl rfl) (pe_call (ok_law_bf_product T) (hr.mono (by decide)) (by rfl) T.g_law_bf_product T.F_law_bf_product.kp T.b_law_bf_product .nil pass0 (pa_cons (pv 2) (pa_cons (pv 5) pa_nil))))))))
      (pss_one (ps_ret (pv 2))))), ?_⟩
    refine ⟨(by show 4 ≤ sizeLine; decide), fun p np => ?_⟩
    have s0 := same_upd (o := .tup (mV idm)) np
    refine ⟨.ref d, rfl, .int t, rfl, t, 1, rfl, rfl, d, t + 1, rfl, hd.same s0, by omega, by omega, fun n y0 y1 y2 n0 n1 => ⟨n, rfl, by omega, by omega, ?_⟩⟩
    have f0 : Fr d H (upd (upd H p (.tup (mV idm))) d (dV y0 y1 y2)) := (s0.fr hd).trans (Fr.upd y0 y1 y2)
    have hp0 : (upd (upd H p (.tup (mV idm))) d (dV y0 y1 y2)) p = some (.tup (mV idm)) := (Fr.upd (d := d) (H := upd H p (.tup (mV idm))) y0 y1 y2).tup (hd.same s0) upd_same
    refine for_range (lo := 0) (n := n.toNat) (fun i σ H' => ∃ (pf : Addr) (M : M4) (x3 x4 x5 : Option V), σ = [some (.ref d), some (.int t), some (.ref pf), x3, x4, x5] ∧ Fr d H H' ∧ H' pf = some (.tup (mV M)) ∧ det M = 1 ∧ Wn (ten i) M)
      ⟨p, idm, none, none, none, rfl, f0, hp0, det_id, by unfold idm Wn ten; decide⟩ ?_ ?_
    · rintro i σ H' hi ⟨pf, M, x3, x4, x5, rfl, fr, hM, dM, wM⟩
      have hi9 : i < 9 := by omega
      refine ⟨.ref d, rfl, d, 9, rfl, fr.2, by decide, by decide, fun r z0 z1 z2 r0 r1 => ⟨1, r, rfl, rfl, ?_⟩⟩
      generalize hH1 : upd H' d (dV z0 z1 z2) = H1
      have f1 : Fr d H' H1 := hH1 ▸ Fr.upd z0 z1 z2
      have hM1 := f1.tup fr.2 hM
      refine ⟨.ref d, rfl, 1, rfl, (by show 4 ≤ sizeLine; decide), fun p0 np0 => ?_⟩
      have k0 := same_upd (o := .tup (mV swp)) np0
      refine ⟨_, rfl, (by show 4 ≤ sizeLine; decide), fun p1 np1 => ?_⟩
      have k1 := same_upd (o := .tup (mV (trn (1 + r)))) np1
      refine ⟨_, rfl, _, rfl, (by show 4 ≤ sizeLine; decide), fun p2 np2 => ?_⟩
      have k2 := same_upd (o := .tup (mV (1, 0, -(1 + r), 1))) np2
      refine ⟨_, rfl, _, rfl, (by show 4 ≤ sizeLine; decide), fun p3 np3 => ?_⟩
      have k3 := same_upd (o := .tup (mV (trn (-(1 + r))))) np3
      refine ⟨(by show 4 ≤ sizeLine; decide), fun l nl => ?_⟩
      have k4 := same_upd (o := .lst [.ref p0, .ref p1, .ref p2, .ref p3]) nl
      have kk := k0.trans (k1.trans (k2.trans (k3.trans k4)))
      have f2 := f1.same kk
      have ld : l ≠ d := fun z => by
        obtain ⟨a1, a2, a3, e⟩ := f1.2.same (k0.trans (k1.trans (k2.trans k3)))
        rw [z] at nl
        have e2 := e.symm.trans nl
        cases e2
      refine ⟨d, l, _, rfl, f2.2, ld, upd_same, (by show 0 < 4; decide), (by show 4 < 1000; decide), fun j v w0 w1 w2 hv => ?_⟩
      obtain ⟨ps, S, rfl, hps, hSt⟩ := pick4 (H := upd (upd (upd (upd (upd H1 p0 (.tup (mV swp))) p1 (.tup (mV (trn (1 + r))))) p2 (.tup (mV (1, 0, -(1 + r), 1)))) p3 (.tup (mV (trn (-(1 + r)))))) l (.lst [.ref p0, .ref p1, .ref p2, .ref p3]))
        ⟨k4 _ _ (k3 _ _ (k2 _ _ (k1 _ _ upd_same))), .inl rfl⟩ ⟨k4 _ _ (k3 _ _ (k2 _ _ upd_same)), .inr ⟨1 + r, by omega, .inl rfl⟩⟩ ⟨k4 _ _ (k3 _ _ upd_same), .inr ⟨-(1 + r), by omega, .inr rfl⟩⟩ ⟨k4 _ _ upd_same, .inr ⟨-(1 + r), by omega, .inl rfl⟩⟩ hv
      have f3 := Fr.upd (d := d) (H := upd (upd (upd (upd (upd H1 p0 (.tup (mV swp))) p1 (.tup (mV (trn (1 + r))))) p2 (.tup (mV (1, 0, -(1 + r), 1)))) p3 (.tup (mV (trn (-(1 + r)))))) l (.lst [.ref p0, .ref p1, .ref p2, .ref p3])) w0 w1 w2
      have hM3 := f3.tup f2.2 (kk _ _ hM1)
      have hS3 := f3.tup f2.2 hps
      have lt : ten i ≤ 1000000000 := ten_le9 (by omega)
      have big : (10000000000 : Int) ≤ 2 ^ 900 := by decide +kernel
      refine ⟨.ref pf, rfl, .ref ps, rfl, pf, ps, M, S, rfl, sqt_of hM3, sqt_of hS3, wM.mB (by omega), hSt.wn.mB (by omega), fun p4 np4 => ?_⟩
      refine ⟨p4, mul M S, _, _, _, rfl, ((fr.trans f2).trans f3).same (same_upd np4), upd_same, by rw [det_mul, dM, hSt.det] <;> rfl, ?_⟩
      rw [ten_succ]
      exact hSt.mul wM
    · rintro σ H' ⟨pf, M, x3, x4, x5, rfl, fr, hM, dM, wM⟩
      exact ⟨.ref pf, rfl, q H' pf M fr hM dM (wM.mono (ten_le9 (by omega)))⟩
/-! ### whether any value is right -/
def sp_law_is_right_matrix : Sp := fun vs H Q _ => ∃ (a b : Addr) (f g : F3) (x : V) (o : Option (List V)), vs = [.ref a, .ref b, x] ∧ SqT K H a (fV f) ∧ SqT K H b (fV g) ∧ fB f ∧ Des K H x o ∧ ∀ H', Same H H' → Q (.bl (rightO f g o)) H'
theorem ok_law_is_right_matrix : FnOk P w K mg base CX0 2 T.a_law_is_right_matrix T.d_law_is_right_matrix ["_law_form", "_law_least", "_law_value"] (sp_law_is_right_matrix (K := K)) := by
  refine T.F_law_is_right_matrix.ok c_law_is_right_matrix (fun vs H Q E h => ?_) (fun cdv A outer s H vs Q E hr h => ?_)
  · obtain ⟨a, b, f, g, x, o, rfl, _⟩ := h
    rfl
  · obtain ⟨a, b, f, g, x, o, rfl, hF, hG, bf, hx, q⟩ := h
    refine ⟨_, PSs.nox (pss_cons (ps_if (PW.pt (pw_or (pt_not (pt_val (pe_callB (id := "isinstance") (r := rIsi K) call_isi (by rfl) T.n_isinstance (by decide +kernel) (pa_cons (pv 2) (pa_cons (pe_bltn (v := .ty "tuple") (by rfl) T.n_tuple PyProof.Rows.boot_tuple rfl) pa_nil))))) (pw_or1 (pt_cmpR op_ne (pe_callB call_len (by rfl) T.n_len (by decide +kernel) (pa_cons (pv 2) pa_nil)) pe_int (nomark _))))) (pss_one (ps_ret pe_bl)) pss_nil)
      (pss_cons (ps_if (pt_not (pt_val (pe_callB (cr_all rfl) (by rfl) T.n_all (by decide +kernel) (pa_cons (pe_lc (own := [("_law_entry", 3)]) (g := gName 3) (by rfl) c_law_is_right_matrix.nd (pi_tup (pv 2)) (blkOk_by (own := [("_law_entry", 3)]) (N := ["_law_form", "_law_least", "_law_value", "_law_entry"]) (sc := defScope s_law_is_right_matrix) (by decide +kernel)) (fun _ _ _ _ _ => pg_name (i := 3) c_law_is_right_matrix.nd rfl (Or.inl rfl)) (fun _ _ _ _ _ => pts_nil) (fun _ _ _ _ _ => (pe_and (pe_callB (id := "isinstance") (r := rIsi K) call_isi (by rfl) T.n_isinstance (by decide +kernel) (pa_cons (pv 3) (pa_cons (pe_bltn (v := .ty "int") (by rfl) T.n_int PyProof.Rows.boot_int rfl) pa_nil))) (pe_one (pe_not (pe_callB (id := "isinstance") (r := rIsi K) call_isi (by rfl) T.n_isinstance (by decide +kernel) (pa_cons (pv 3) (pa_cons (pe_bltn (v := .ty "bool") (by rfl) T.n_bool PyProof.Rows.boot_bool rfl) pa_nil)))))))) pa_nil)))) (pss_one (ps_ret pe_bl)) pss_nil)
      (pss_one (ps_ret (pe_and (pe_cmpR op_eq (pe_op op_sub (pe_op op_mulW (pe_ix ix_tup (pv 2) pe_int (fun _ _ => rfl)) (pe_ix ix_tup (pv 2) pe_int (fun _ _ => rfl))) (pe_op op_mulW (pe_ix ix_tup (pv 2) pe_int (fun _ _ => rfl)) (pe_ix ix_tup (pv 2) pe_int (fun _ _ => rfl)))) pe_int (nomark _)) (pe_one (pe_cmpR (r := rEqD K) (op_eqD hr.units) (pe_call (ok_law_bf_led T) (hr.mono (by decide)) (by rfl) T.g_law_bf_led T.F_law_bf_led.kp T.b_law_bf_led .nil pass0 (pa_cons (pv 0) (pa_cons (pv 2) pa_nil))) (pv 1) (nomark _)))))))), ?_⟩
    cases o with
    | none =>
      obtain ⟨t, ty, k⟩ := hx.ty
      exact r_when (b := true || true) (ptv_or (ptv_not (b := false) (pt_B (pv_isi (pv_var rfl) ty k))) fun e => by cases e) (fun _ => r_ret pv_c (q H (Same.refl H))) fun e => by cases e
    | some xs =>
      obtain ⟨c, rfl, hS, hl, he⟩ : ∃ a, x = .ref a ∧ SqT K H a xs ∧ xs.length ≤ 1000 ∧ ∀ x ∈ xs, flatE x = true ∧ ∀ i, x = .int i → Bd 1000 i := by
        cases hx with
        | tup h hl he => exact ⟨_, rfl, h, hl, he⟩
      have isi : PTv (tNot (tB (tCB (rIsi K) (tCons (tVar 2) (tCons (tC (.ty "tuple")) tNil))))) (L2.start ["_law_form", "_law_least", "_law_value", "_law_entry"] [V.ref a, V.ref b, V.ref c]) H false :=
        ptv_not (b := true) (pt_B (pv_isi (pv_var rfl) (tyx_tup hS) (by decide +kernel)))
      have len : PV (tCB (fun xs H Q => ∃ x n, xs = [x] ∧ LenV K x H n ∧ Q (.int n) H) (tCons (tVar 2) tNil)) (L2.start ["_law_form", "_law_least", "_law_value", "_law_entry"] [V.ref a, V.ref b, V.ref c]) H (.int (xs.length : Int)) :=
        pv_callB (pva_cons (pv_var rfl) pva_nil) fun Q q => ⟨.ref c, xs.length, rfl, .inr ⟨_, hS, rfl⟩, q⟩
      by_cases hn : xs.length = 4
      · have e4 : (!decide (V.int (xs.length : Int) = V.int 4)) = false := by
          rw [hn]
          rfl
        refine r_when (b := false || false) (ptv_or isi fun _ => ptv_is (pt_test (pv_ne len pv_c rfl)) e4) (fun e => by cases e) fun _ => ?_
        refine r_whenX (b := !((xs.map wholeV).all id)) (xt_not (xt_B (xv_all (bs := xs.map wholeV) ?_))) (fun e H' sm => ?_) fun e H' sm => ?_
        · have em : (xs.map wholeV).map V.bl = xs.map fun x => V.bl (wholeV x) := by
            rw [List.map_map]
            rfl
          rw [em]
          refine nl_lcT (xs := xs) (fun x => .bl (wholeV x)) (pv_var rfl) hS hl (fun x => rfl) fun x hx H' _ => ?_
          obtain ⟨t, ty, k1, k2, e⟩ := tyx_flat (K := K) (H := H') (he x hx).1
          rw [e]
          exact pv_and (pv_isi (pv_var rfl) ty k1) fun _ => pv_not (pv_isi (pv_var rfl) ty k2)
        · have e2 : xs.all wholeV = false := by
            rw [Bool.not_eq_true'] at e
            rw [← e, List.all_map]
            rfl
          have q2 := q H' sm
          rw [show rightO f g (some xs) = false from rightB_eq f g (turnB_all e2)] at q2
          exact r_ret pv_c q2
        · have e2 : xs.all wholeV = true := by
            rw [Bool.not_eq_false'] at e
            rw [← e, List.all_map]
            rfl
          obtain ⟨m, rfl⟩ := whole4 hn e2
          have hS' := sm.sqt hS
          have bd : ∀ i : Int, V.int i ∈ mV m → Bd 1000 i := fun i hi => (he _ hi).2 i rfl
          have b1 := bd m.1 (by simp)
          have b2 := bd m.2.1 (by simp)
          have b3 := bd m.2.2.1 (by simp)
          have b4 := bd m.2.2.2 (by simp)
          have q' : ∀ H2, Same H H2 → Q (.bl (decide (det m = 1) && decide (led f m = g))) H2 := q
          refine r_retX (v := .bl (decide (det m = 1) && decide (led f m = g))) (xv_and (PV.x (pv_is (pv_eq (v := .int (m.1 * m.2.2.2 - m.2.1 * m.2.2.1)) (w := .int 1) ?_ pv_c rfl) (bl_dec vint_inj))) fun _ H2 s2 => ?_) fun H2 s2 => q' H2 (sm.trans s2)
          · apply PB.pv
            walk_at "pb"
          · intro Q2 k2
            have s12 := sm.trans s2
            refine ⟨.ref a, rfl, .ref c, rfl, a, c, f, m, rfl, s12.sqt hF, s12.sqt hS, bf, ⟨b1, b2, b3, b4⟩, fun p np => ?_⟩
            have s3 := same_upd (o := .tup (fV (led f m))) np
            refine ⟨.ref b, rfl, _, _, dp_f (sqt_of upd_same), dp_f (s3.sqt (s12.sqt hG)), sh_f _, sh_f _, ?_⟩
            rw [eqv_f]
            exact k2 _ s3
      · have e4 : (!decide (V.int (xs.length : Int) = V.int 4)) = true := by
          have : ¬ (V.int (xs.length : Int) = V.int 4) := fun z => hn (by
            have := V.int.inj z
            omega)
          rw [decide_eq_false this]
          rfl
        have q2 := q H (Same.refl H)
        rw [show rightO f g (some xs) = false from rightB_eq f g (turnB_len hn)] at q2
        exact r_when (b := false || true) (ptv_or isi fun _ => ptv_is (pt_test (pv_ne len pv_c rfl)) e4) (fun _ => r_ret pv_c q2) fun e => by cases e
end
end K43
namespace K43
open PySem PySem.Spec PyProof.Rows L2
/-! ### lists of small matrices -/
def KL (H : Hp) (ks : List Addr) (n : Nat) : Prop := (∀ k ∈ ks, ∃ m, H k = some (.tup (mV m)) ∧ Wn 1 m) ∧ ks.length ≤ n
theorem KL.same {H H' : Hp} {ks : List Addr} {n : Nat} (h : KL H ks n) (s : Same H H') : KL H' ks n := ⟨fun k hk => let ⟨m, e, wm⟩ := h.1 k hk; ⟨m, s _ _ e, wm⟩, h.2⟩
theorem KL.nil {H : Hp} : KL H [] 0 := ⟨fun _ h => (by cases h), Nat.le_refl 0⟩
theorem KL.mono {H : Hp} {ks : List Addr} {n k : Nat} (h : KL H ks n) (l : n ≤ k) : KL H ks k := ⟨h.1, Nat.le_trans h.2 l⟩
theorem KL.app {H : Hp} {ks ls : List Addr} {n k : Nat} (h : KL H ks n) (g : KL H ls k) : KL H (ks ++ ls) (n + k) := ⟨fun a ha => (List.mem_append.mp ha).elim (h.1 a) (g.1 a), by
  rw [List.length_append]
  exact Nat.add_le_add h.2 g.2⟩
theorem KL.snoc {H : Hp} {ks : List Addr} {n : Nat} {a : Addr} {m : M4} (h : KL H ks n) (e : H a = some (.tup (mV m))) (wm : Wn 1 m) : KL H (ks ++ [a]) (n + 1) :=
  h.app ⟨fun b hb => by
    rw [List.mem_singleton.mp hb]
    exact ⟨m, e, wm⟩, Nat.le_refl 1⟩
theorem KL.upd {H : Hp} {ks : List Addr} {n : Nat} {l : Addr} {xs ys : List V} (h : KL H ks n) (e : H l = some (.lst xs)) : KL (upd H l (.lst ys)) ks n := ⟨fun k hk => by
  obtain ⟨m, ek, wm⟩ := h.1 k hk
  refine ⟨m, ?_, wm⟩
  rw [upd_ne (ne_of ek e (by intro z; cases z))]
  exact ek, h.2⟩
abbrev some3 : List V := [.int (-1), .int 0, .int 1]
theorem some3_at {i : Nat} {x : V} (h : some3[i]? = some x) : ∃ t : Int, x = .int t ∧ (-1 ≤ t ∧ t ≤ 1) := by
  match i, h with
  | 0, h => exact ⟨-1, (Option.some.inj h).symm, by decide⟩
  | 1, h => exact ⟨0, (Option.some.inj h).symm, by decide⟩
  | 2, h => exact ⟨1, (Option.some.inj h).symm, by decide⟩
  | i + 3, h => cases h
theorem bd1 {t : Int} (h : -1 ≤ t ∧ t ≤ 1) : Bd 128 t := Bd.of h (by decide)
section
variable {P : Program} {w : World} {K : PySem.W.Frag} {mg : Str → Option Value} {base : Heap} (T : Txt K mg)
def sp_law_bf_keepers : Sp := fun vs H Q _ => ∃ (a : Addr) (f : F3), vs = [.ref a] ∧ SqT K H a (fV f) ∧ fB f ∧ ∀ H' l ks, Same H H' → H l = none → H' l = some (.lst (ks.map V.ref)) → KL H' ks 81 → Q (.ref l) H'
theorem ok_law_bf_keepers : FnOk P w K mg base CX0 2 T.a_law_bf_keepers T.d_law_bf_keepers ["_law_form"] (sp_law_bf_keepers (K := K)) := by
  refine T.F_law_bf_keepers.ok c_law_bf_keepers (fun vs H Q E h => ?_) (fun cdv A outer s H vs Q E hr h => ?_)
  · obtain ⟨a, f, rfl, _⟩ := h
    rfl
  · obtain ⟨a, f, rfl, hS, bf, q⟩ := h
    refine ⟨_, PSs.nox (pss_cons (ps_par (i := 1) (j := 2) (by rfl) c_law_bf_keepers.nd rfl rfl (by decide) rfl rfl (pa_cons (pe_lst pa_nil) (pa_cons (pe_lst (pa_cons (pe_un un_neg pe_int) (pa_cons pe_int (pa_cons pe_int pa_nil)))) pa_nil)) (by rfl))
      (pss_cons (ps_for PassesOwn.never rfl (pi_list (pv 2)) (pg_name (i := 3) c_law_bf_keepers.nd rfl (.inr rfl)) (pss_one (ps_for PassesOwn.never rfl (pi_list (pv 2)) (pg_name (i := 4) c_law_bf_keepers.nd rfl (.inr rfl)) (pss_one (ps_for PassesOwn.never rfl (pi_list (pv 2)) (pg_name (i := 5) c_law_bf_keepers.nd rfl (.inr rfl)) (pss_one (ps_set (i := 1) c_law_bf_keepers.nd rfl (.inl rfl) (pe_op op_cat (pv 1) (pe_lc (own := [("_law_s", 6)]) (g := gName 6) (by rfl) c_law_bf_keepers.nd (pi_list (pv 2)) (blkOk_by (own := [("_law_s", 6)]) (N := ["_law_form", "_law_found", "_law_some", "_law_p", "_law_q", "_law_r", "_law_s", "_law_matrix"]) (sc := defScope s_law_bf_keepers) (by decide +kernel)) (fun _ _ _ _ _ => pg_name (i := 6) c_law_bf_keepers.nd rfl (Or.inl rfl)) (fun _ _ _ _ _ => (pts_one (pt_cmpR op_eq (pe_op op_sub (pe_op op_mulW (pv 3) (pv 6)) (pe_op op_mulW (pv 4) (pv 5))) pe_int (nomark _)))) (fun _ _ _ _ _ => (pe_tup (pa_cons (pv 3) (pa_cons (pv 4) (pa_cons (pv 5) (pa_cons (pv 6) pa_nil)))))))))))))))
      (pss_one (ps_ret (pe_lc (own := [("_law_matrix", 7)]) (g := gName 7) (by rfl) c_law_bf_keepers.nd (pi_list (pv 1)) (blkOk_by (own := [("_law_matrix", 7)]) (N := ["_law_form", "_law_found", "_law_some", "_law_p", "_law_q", "_law_r", "_law_s", "_law_matrix"]) (sc := defScope s_law_bf_keepers) (by decide +kernel)) (fun _ _ _ _ _ => pg_name (i := 7) c_law_bf_keepers.nd rfl (Or.inl rfl)) (fun _ _ _ _ _ => (pts_one (pt_cmpR (r := rEqD K) (op_eqD hr.units) (pe_call (ok_law_bf_led T) (hr.mono (by decide)) (by rfl) T.g_law_bf_led T.F_law_bf_led.kp T.b_law_bf_led .nil pass0 (pa_cons (pv 0) (pa_cons (pv 7) pa_nil))) (pv 0) (nomark _)))) (fun _ _ _ _ _ => (pv 7))))))), ?_⟩
    refine ⟨Nat.zero_le _, fun l0 nl0 => ?_⟩
    have s0 := same_upd (o := .lst []) nl0
    refine ⟨1, rfl, (by show 3 ≤ sizeLine; decide), fun ls nls => ⟨_, _, rfl, ?_⟩⟩
    have s1 := same_upd (o := .lst some3) nls
    have z3 : ([.int (-1), .int 0, .int 1] : List V) = some3 := rfl
    have main : ∀ n, ∀ σ H', (∃ (lf : Addr) (ks : List Addr) (x3 x4 x5 x6 x7 : Option V), σ = [some (.ref a), some (.ref lf), some (.ref ls), x3, x4, x5, x6, x7] ∧ Same H H' ∧ H' ls = some (.lst some3) ∧ H' lf = some (.lst (ks.map V.ref)) ∧ KL H' ks n) → SqL K H' ls some3 := by
      rintro n σ H' ⟨_, _, _, _, _, _, _, _, _, e, _⟩
      exact sql_of e
    refine ⟨.ref ls, rfl, ls, rfl, ⟨some3, sql_of upd_same⟩, for_list (K := K) (a := ls) (xs := some3) (fun i σ H' => ∃ (lf : Addr) (ks : List Addr) (x3 x4 x5 x6 x7 : Option V), σ = [some (.ref a), some (.ref lf), some (.ref ls), x3, x4, x5, x6, x7] ∧ Same H H' ∧ H' ls = some (.lst some3) ∧ H' lf = some (.lst (ks.map V.ref)) ∧ KL H' ks (27 * i))
      ⟨l0, [], none, none, none, none, none, rfl, s0.trans s1, upd_same, s1 _ _ upd_same, KL.nil⟩ (fun i σ H' _ z => main _ σ H' z) ?_ ?_⟩
    · rintro i x σ H1 hi ⟨lf, ks, x3, x4, x5, x6, x7, rfl, sm, hls, hlf, kl⟩
      obtain ⟨p, rfl, hp⟩ := some3_at hi
      refine ⟨.ref ls, rfl, ls, rfl, ⟨some3, sql_of hls⟩, for_list (K := K) (a := ls) (xs := some3) (fun j σ H' => ∃ (lf : Addr) (ks : List Addr) (x4 x5 x6 x7 : Option V), σ = [some (.ref a), some (.ref lf), some (.ref ls), some (.int p), x4, x5, x6, x7] ∧ Same H H' ∧ H' ls = some (.lst some3) ∧ H' lf = some (.lst (ks.map V.ref)) ∧ KL H' ks (27 * i + 9 * j))
        ⟨lf, ks, x4, x5, x6, x7, rfl, sm, hls, hlf, kl⟩ (fun j σ H' _ z => ?_) ?_ ?_⟩
      · obtain ⟨_, _, _, _, _, _, _, _, e, _⟩ := z
        exact sql_of e
      · rintro j x σ H2 hj ⟨lf, ks, x4, x5, x6, x7, rfl, sm, hls, hlf, kl⟩
        obtain ⟨qq, rfl, hq⟩ := some3_at hj
        refine ⟨.ref ls, rfl, ls, rfl, ⟨some3, sql_of hls⟩, for_list (K := K) (a := ls) (xs := some3) (fun k σ H' => ∃ (lf : Addr) (ks : List Addr) (x5 x6 x7 : Option V), σ = [some (.ref a), some (.ref lf), some (.ref ls), some (.int p), some (.int qq), x5, x6, x7] ∧ Same H H' ∧ H' ls = some (.lst some3) ∧ H' lf = some (.lst (ks.map V.ref)) ∧ KL H' ks (27 * i + 9 * j + 3 * k))
          ⟨lf, ks, x5, x6, x7, rfl, sm, hls, hlf, kl⟩ (fun j σ H' _ z => ?_) ?_ ?_⟩
        · obtain ⟨_, _, _, _, _, _, _, e, _⟩ := z
          exact sql_of e
        · rintro k x σ H3 hk ⟨lf, ks, x5, x6, x7, rfl, sm, hls, hlf, kl⟩
          obtain ⟨r, rfl, hr'⟩ := some3_at hk
          have bp := bd1 hp
          have bq := bd1 hq
          have br := bd1 hr'
          have i2 : i < 3 := (List.getElem?_eq_some_iff.mp hi).1
          have j2 : j < 3 := (List.getElem?_eq_some_iff.mp hj).1
          have k2 : k < 3 := (List.getElem?_eq_some_iff.mp hk).1
          refine ⟨.ref lf, rfl, .ref ls, rfl, ls, rfl, ⟨some3, sql_of hls⟩, fun D hD => lc_list (K := K) (a := ls) (xs := some3) (fun m H' => Same H3 H' ∧ ∃ ns : List Addr, H' D = some (.lst (ns.map V.ref)) ∧ KL H' ns m)
            ⟨same_upd hD, [], upd_same, KL.nil⟩ (fun m H' _ z => sql_of (z.1 _ _ hls)) ?_ ?_⟩
          · rintro m x H4 hm ⟨sm4, ns, hDn, kn⟩
            obtain ⟨s, rfl, hs⟩ := some3_at hm
            have bs := bd1 hs
            have m2 : m < 3 := (List.getElem?_eq_some_iff.mp hm).1
            refine ⟨rfl, ?_⟩
            have tst : PTv (tTest (tOp rEq (tOp (rI0 fun i j => V.int (i - j)) (tOp (rI CMulW fun i j => V.int (i * j)) (tVar 3) (tVar 6)) (tOp (rI CMulW fun i j => V.int (i * j)) (tVar 4) (tVar 5))) (tC (V.int 1))))
                [some (V.ref a), some (.ref lf), some (.ref ls), some (.int p), some (.int qq), some (.int r), some (.int s), x7] H4 (decide (V.int (p * s - qq * r) = V.int 1)) := by
              refine pt_test (pv_eq ?_ pv_c rfl)
              apply PB.pv
              walk_at "pb"
            refine tst _ ?_
            by_cases ht : V.int (p * s - qq * r) = V.int 1
            · rw [decide_eq_true ht]
              refine iteT ⟨.int p, rfl, .int qq, rfl, .int r, rfl, .int s, rfl, (by show 4 ≤ sizeLine; decide), fun t nt => ?_⟩
              have st := same_upd (o := .tup (mV (p, qq, r, s))) nt
              refine ⟨ns.map V.ref, st _ _ hDn, ?_, fun b o e => ?_, ns ++ [t], ?_, ?_⟩
              · rw [List.length_map]
                exact small1000 (Nat.le_trans kn.2 (by omega))
              · rw [upd_ne (ne_of_none e hD)]
                exact st _ _ (sm4 _ _ e)
              · rw [upd_same, List.map_append]
                rfl
              · exact ((kn.same st).snoc upd_same ⟨hp, hq, hr', hs⟩).upd (st _ _ hDn)
            · rw [decide_eq_false ht]
              exact iteF ⟨sm4, ns, hDn, kn.mono (by omega)⟩
          · rintro H4 ⟨sm4, ns, hDn, kn⟩
            have kn3 : KL H4 ns 3 := kn
            refine ⟨lf, D, ks.map V.ref, ns.map V.ref, rfl, rfl, sm4 _ _ hlf, hDn, ?_, fun t nt => ?_⟩
            · rw [List.length_map, List.length_map]
              exact Nat.le_of_lt (small1000 (by have := kl.2; have := kn3.2; omega))
            · have st := same_upd (o := .lst (ks.map V.ref ++ ns.map V.ref)) nt
              refine ⟨t, ks ++ ns, _, _, _, rfl, sm.trans (sm4.trans st), st _ _ (sm4 _ _ hls), ?_, ?_⟩
              · rw [upd_same, List.map_append]
              · have z := ((kl.same (sm4.trans st)).app (kn3.same st))
                exact z.mono (by omega)
        · rintro σ H3 ⟨lf, ks, x5, x6, x7, rfl, sm, hls, hlf, kl⟩
          exact ⟨lf, ks, _, _, _, _, rfl, sm, hls, hlf, kl.mono (by show 27 * i + 9 * j + 3 * 3 ≤ _; omega)⟩
      · rintro σ H2 ⟨lf, ks, x4, x5, x6, x7, rfl, sm, hls, hlf, kl⟩
        exact ⟨lf, ks, _, _, _, _, _, rfl, sm, hls, hlf, kl.mono (by show 27 * i + 9 * 3 ≤ _; omega)⟩
    · rintro σ H1 ⟨lf, ks, x3, x4, x5, x6, x7, rfl, sm, hls, hlf, kl⟩
      have kl81 : KL H1 ks 81 := kl
      refine ⟨.ref lf, rfl, lf, rfl, ⟨_, sql_of hlf⟩, fun D hD => lc_list (K := K) (a := lf) (xs := ks.map V.ref) (fun m H' => Same H1 H' ∧ ∃ ns : List Addr, H' D = some (.lst (ns.map V.ref)) ∧ KL H' ns m)
        ⟨same_upd hD, [], upd_same, KL.nil⟩ (fun m H' _ z => sql_of (z.1 _ _ hlf)) ?_ ?_⟩
      · rintro m x H4 hm ⟨sm4, ns, hDn, kn⟩
        obtain ⟨c, hc, rfl⟩ : ∃ c ∈ ks, x = V.ref c := by
          obtain ⟨c, hc, e⟩ := List.mem_map.mp (List.mem_of_getElem? hm)
          exact ⟨c, hc, e.symm⟩
        have m81 : m < 81 := by
          have z := (List.getElem?_eq_some_iff.mp hm).1
          rw [List.length_map] at z
          have := kl81.2
          omega
        obtain ⟨M, hM, wM⟩ := kl81.1 c hc
        refine ⟨rfl, ?_⟩
        refine ⟨.ref a, rfl, .ref c, rfl, a, c, f, M, rfl, (sm.trans sm4).sqt hS, sqt_of (sm4 _ _ hM), bf, wM.mB (by decide +kernel), fun t nt => ?_⟩
        have st := same_upd (o := .tup (fV (led f M))) nt
        refine ⟨.ref a, rfl, _, _, dp_f (sqt_of upd_same), dp_f (st.sqt ((sm.trans sm4).sqt hS)), sh_f _, sh_f _, ?_⟩
        refine ⟨_, rfl, ?_⟩
        refine ite2 (fun _ => ?_) (fun _ => ?_)
        · refine ⟨.ref c, rfl, ns.map V.ref, st _ _ hDn, ?_, fun b o e => ?_, ns ++ [c], ?_, ?_⟩
          · rw [List.length_map]
            exact small1000 (Nat.le_trans kn.2 (by omega))
          · rw [upd_ne (ne_of_none e hD)]
            exact st _ _ (sm4 _ _ e)
          · rw [upd_same, List.map_append]
            rfl
          · exact ((kn.same st).snoc (st _ _ (sm4 _ _ hM)) wM).upd (st _ _ hDn)
        · exact ⟨sm4.trans st, ns, st _ _ hDn, (kn.same st).mono (by omega)⟩
      · rintro H4 ⟨sm4, ns, hDn, kn⟩
        refine q H4 D ns (sm.trans sm4) (sm.free hD) hDn (kn.mono ?_)
        rw [List.length_map]
        exact kl81.2
end
end K43
namespace K43
open PySem PySem.Spec PyProof.Rows L2
/-! ### values near a matrix -/
/-- an entry of such a tuple -/
def Good (x : V) : Prop := flatE x = true ∧ ∀ i, x = .int i → Bd 1000 i
theorem good_int {i : Int} (h : Bd 1000 i) : Good (.int i) := ⟨rfl, fun j e => V.int.inj e ▸ h⟩
theorem good_non : Good .non := ⟨rfl, fun _ e => by cases e⟩
theorem good_bl {b : Bool} : Good (.bl b) := ⟨rfl, fun _ e => by cases e⟩
theorem good_str {z : Str} : Good (.str z) := ⟨rfl, fun _ e => by cases e⟩
abbrev B2 : Int := 2 ^ 300
theorem Wn.goods {n : Int} {m : M4} (h : Wn n m) (l : n ≤ 2 ^ 900) : ∀ x ∈ mV m, Good x := by
  obtain ⟨h1, h2, h3, h4⟩ := h.mB l
  intro x hx
  simp only [List.mem_cons, List.not_mem_nil, or_false] at hx
  rcases hx with rfl | rfl | rfl | rfl
  · exact good_int h1
  · exact good_int h2
  · exact good_int h3
  · exact good_int h4
theorem mul_wn {m n : M4} (h : Wn B2 m) (k : Wn 1000000000 n) : Wn (2 ^ 400) (mul m n) := by
  obtain ⟨p, q, r, s⟩ := m
  obtain ⟨x, y, z, w⟩ := n
  obtain ⟨h1, h2, h3, h4⟩ := h
  obtain ⟨k1, k2, k3, k4⟩ := k
  simp only at h1 h2 h3 h4 k1 k2 k3 k4
  have e : (B2 : Int) = 2037035976334486086268445688409378161051468393665936250636140449354381299763336706183397376 := by decide +kernel
  have e2 : (2 : Int) ^ 400 = 2582249878086908589655919172003011874329705792829223512830659356540647622016841194629645353280137831435903171972747493376 := by decide +kernel
  have big : ∀ a b : Int, (-B2 ≤ a ∧ a ≤ B2) → (-1000000000 ≤ b ∧ b ≤ 1000000000) → -(B2 * 1000000000) ≤ a * b ∧ a * b ≤ B2 * 1000000000 := by
    intro a b ha hb
    have e : (a * b).natAbs = a.natAbs * b.natAbs := Int.natAbs_mul a b
    have h : a.natAbs * b.natAbs ≤ (B2 : Int).natAbs * 1000000000 := Nat.mul_le_mul (by omega) (by omega)
    omega
  have a1 := big p x h1 k1
  have a2 := big q z h2 k3
  have a3 := big p y h1 k2
  have a4 := big q w h2 k4
  have a5 := big r x h3 k1
  have a6 := big s z h4 k3
  have a7 := big r y h3 k2
  have a8 := big s w h4 k4
  simp only [Wn, mul]
  omega
section
variable {K : PySem.W.Frag}
theorem des_of {H : Hp} {p : Addr} {xs : List V} (h : SqT K H p xs) (g : ∀ x ∈ xs, Good x) (l : xs.length ≤ 1000) : ∃ o, Des K H (.ref p) o := ⟨_, .tup h l fun x hx => ⟨(g x hx).1, (g x hx).2⟩⟩
/-- a list of such values -/
def DL (K : PySem.W.Frag) (H : Hp) (vs : List V) (n : Nat) : Prop := (∀ v ∈ vs, ∃ o, Des K H v o) ∧ vs.length ≤ n
theorem DL.same {H H' : Hp} {vs : List V} {n : Nat} (h : DL K H vs n) (s : Same H H') : DL K H' vs n := ⟨fun v hv => let ⟨o, d⟩ := h.1 v hv; ⟨o, d.same s⟩, h.2⟩
/-- lists may change, all else stays -/
def Lr (H H' : Hp) : Prop := (∀ b o, (∀ ys, o ≠ .lst ys) → H b = some o → H' b = some o) ∧ ∀ b ys, H b = some (.lst ys) → ∃ zs, H' b = some (.lst zs)
theorem Lr.des {H H' : Hp} {v : V} {o : Option (List V)} (l : Lr H H') (d : Des K H v o) : Des K H' v o := by
  cases d with
  | non => exact .non
  | int i => exact .int i
  | lst h =>
    obtain ⟨zs, e⟩ := l.2 _ _ h
    exact .lst e
  | tup h hl he =>
    refine .tup ?_ hl he
    rcases h with (h | ⟨ob, h⟩) | h
    · exact .inl (.inl (l.1 _ _ (fun _ z => by cases z) h))
    · exact .inl (.inr ⟨ob, l.1 _ _ (fun _ z => by cases z) h⟩)
    · exact .inr h
theorem Lr.dl {H H' : Hp} {vs : List V} {n : Nat} (l : Lr H H') (h : DL K H vs n) : DL K H' vs n := ⟨fun v hv => let ⟨o, d⟩ := h.1 v hv; ⟨o, l.des d⟩, h.2⟩
theorem lr_upd {H : Hp} {a : Addr} {xs ys : List V} (h : H a = some (.lst xs)) : Lr H (upd H a (.lst ys)) := by
  refine ⟨fun b o n e => ?_, fun b zs e => ?_⟩
  · rw [upd_ne fun z => by
      rw [z, h] at e
      exact n _ (Option.some.inj e).symm]
    exact e
  · by_cases hb : b = a
    · exact ⟨ys, by rw [hb]; exact upd_same⟩
    · exact ⟨zs, by rw [upd_ne hb]; exact e⟩
theorem Lr.sqt {H H' : Hp} {p : Addr} {xs : List V} (l : Lr H H') (h : SqT K H p xs) : SqT K H' p xs := by
  rcases h with (h | ⟨ob, h⟩) | h
  · exact .inl (.inl (l.1 _ _ (fun _ z => by cases z) h))
  · exact .inl (.inr ⟨ob, l.1 _ _ (fun _ z => by cases z) h⟩)
  · exact .inr h
theorem fr_lr {d : Addr} {H H' : Hp} (f : Fr d H H') (h : Dice H d) : Lr H H' := by
  refine ⟨fun b o n e => f.1 b o (h.ne e fun x y z => n _) e, fun b ys e => ?_⟩
  by_cases hb : b = d
  · obtain ⟨x, y, z, e2⟩ := f.2
    exact ⟨_, by rw [hb]; exact e2⟩
  · exact ⟨ys, f.1 b _ hb e⟩
theorem Lr.trans {H H1 H2 : Hp} (a : Lr H H1) (b : Lr H1 H2) : Lr H H2 := ⟨fun c o n e => b.1 c o n (a.1 c o n e), fun c ys e => let ⟨zs, e2⟩ := a.2 c ys e; b.2 c zs e2⟩
theorem same_lr {H H' : Hp} (s : Same H H') : Lr H H' := ⟨fun b o _ e => s b o e, fun b ys e => ⟨ys, s b _ e⟩⟩
/-! readings -/
def DX (K : PySem.W.Frag) (te : TE) (σ : L2.St) (H : Hp) : Prop := ∀ Q : VK, (∀ v H', Same H H' → (∃ o, Des K H' v o) → Q v H') → te σ H Q
def DA (K : PySem.W.Frag) (ta : TA) (σ : L2.St) (H : Hp) (n : Nat) : Prop := ∀ Q : List V → Hp → Prop, (∀ vs H', Same H H' → DL K H' vs n → vs.length = n → Q vs H') → ta σ H Q
/-- a tuple of good entries -/
def TX (K : PySem.W.Frag) (te : TE) (σ : L2.St) (H : Hp) (n : Nat) : Prop := ∀ Q : VK, (∀ p H' xs, Same H H' → SqT K H' p xs → (∀ x ∈ xs, Good x) → xs.length ≤ n → Q (.ref p) H') → te σ H Q
def PVo (t : TO) (σ : L2.St) (H : Hp) (o : Option Int) : Prop := ∀ Q : Option Int → Hp → Prop, Q o H → t σ H Q
variable {σ : L2.St} {H : Hp} {te ta tb : TE} {v : V} {n k : Nat} {p : Addr} {xs : List V}
theorem pvo_none : PVo tNoPart σ H none := fun _ q => q
theorem pvo_some {i : Int} (h : PV te σ H (.int i)) : PVo (tPart te) σ H (some i) := fun _ q => h _ ⟨i, rfl, q⟩
theorem tx_var (h : PV te σ H (.ref p)) (hS : SqT K H p xs) (g : ∀ x ∈ xs, Good x) (l : xs.length ≤ n) : TX K te σ H n := fun _ q => h _ (q p H xs (Same.refl H) hS g l)
theorem tx_slice {tl th : TO} {lo hi : Option Int} (h : PV te σ H (.ref p)) (hS : SqT K H p xs) (g : ∀ x ∈ xs, Good x) (l : xs.length ≤ n) (h1 : PVo tl σ H lo) (h2 : PVo th σ H hi) : TX K (tSl (rSlA K) te tl th) σ H n := fun Q q =>
  h _ (h1 _ (h2 _ ⟨p, xs, rfl, hS, fun _ => q p H xs (Same.refl H) hS g l, fun _ r nr => q r _ _ (same_upd nr) (sqt_of upd_same) (fun x hx => g x (List.mem_of_mem_drop (List.mem_of_mem_take hx))) (by
    unfold cutV
    rw [List.length_take, List.length_drop]
    omega)⟩))
theorem tx_one (h : PV te σ H v) (g : Good v) : TX K (tTup (tCons te tNil)) σ H 1 := fun Q q => h _ ⟨(by show 1 ≤ sizeLine; decide), fun r nr => q r _ [v] (same_upd nr) (sqt_of upd_same) (fun x hx => by rw [List.mem_singleton.mp hx]; exact g) (Nat.le_refl 1)⟩
theorem tx_cat (ha : TX K ta σ H n) (hb : ∀ H', Same H H' → TX K tb σ H' k) (hn : n + k ≤ 1000) : TX K (tOp (rCatA K) ta tb) σ H (n + k) := fun Q q => ha _ fun p H1 xs s1 hx gx lx => hb H1 s1 _ fun r H2 ys s2 hy gy ly =>
  ⟨p, r, xs, ys, rfl, rfl, s2.sqt hx, hy, Nat.le_of_lt (small1000 (by omega)), fun _ => q r H2 ys (s1.trans s2) hy gy (by omega), fun _ _ => q p H2 xs (s1.trans s2) (s2.sqt hx) gx (by omega),
    fun _ _ t nt => q t _ (xs ++ ys) ((s1.trans s2).trans (same_upd nt)) (sqt_of upd_same) (fun x hx => (List.mem_append.mp hx).elim (gx x) (gy x)) (by rw [List.length_append]; omega)⟩
theorem TX.dx (h : TX K te σ H n) (l : n ≤ 1000) : DX K te σ H := fun Q q => h _ fun p H' xs s hx g lx => q _ H' s (des_of hx g (by omega))
theorem dx_flat (h : PV te σ H v) (d : Des K H v none) : DX K te σ H := fun Q q => h _ (q v H (Same.refl H) ⟨_, d⟩)
theorem da_nil : DA K tNil σ H 0 := fun _ q => q [] H (Same.refl H) ⟨fun _ h => (by cases h), Nat.le_refl 0⟩ rfl
theorem da_cons {tr : TA} (h : DX K te σ H) (hr : ∀ H', Same H H' → DA K tr σ H' n) : DA K (tCons te tr) σ H (n + 1) := fun Q q => h _ fun v H1 s1 d => hr H1 s1 _ fun vs H2 s2 dl e => q (v :: vs) H2 (s1.trans s2) ⟨fun x hx => by
  rcases List.mem_cons.mp hx with rfl | hx
  · obtain ⟨o, d⟩ := d
    exact ⟨o, d.same s2⟩
  · exact dl.1 x hx, Nat.le_of_eq (by rw [List.length_cons, e])⟩ (by rw [List.length_cons, e])
/-! the loops over matrices -/
def KM (H : Hp) (xs : List V) : Prop := ∀ x ∈ xs, ∃ p M, x = .ref p ∧ H p = some (.tup (mV M)) ∧ Wn 1000000000 M
def But (a : Addr) (H H' : Hp) : Prop := ∀ b o, b ≠ a → H b = some o → H' b = some o
theorem But.refl {a : Addr} {H : Hp} : But a H H := fun _ _ _ e => e
theorem KM.but {a : Addr} {H H' : Hp} {xs ys : List V} (h : KM H xs) (b : But a H H') (e : H a = some (.lst ys)) : KM H' xs := fun x hx => by
  obtain ⟨p, M, ex, eM, wM⟩ := h x hx
  exact ⟨p, M, ex, b _ _ (ne_of eM e (by intro z; cases z)) eM, wM⟩
theorem But.sqt {a : Addr} {H H' : Hp} {ys : List V} (b : But a H H') (e : H a = some (.lst ys)) (h : SqT K H p xs) : SqT K H' p xs := by
  rcases h with (h | ⟨o, h⟩) | h
  · exact .inl (.inl (b _ _ (ne_of h e (by intro z; cases z)) h))
  · exact .inl (.inr ⟨o, b _ _ (ne_of h e (by intro z; cases z)) h⟩)
  · exact .inr h
theorem dl_snoc {H : Hp} {vs : List V} {v : V} {fl : Addr} {ys : List V} (h : DL K H vs n) (d : ∃ o, Des K H v o) (e : H fl = some (.lst ys)) : DL K (upd H fl (.lst (vs ++ [v]))) (vs ++ [v]) (n + 1) := by
  have l := lr_upd (ys := vs ++ [v]) e
  refine ⟨fun x hx => ?_, ?_⟩
  · rcases List.mem_append.mp hx with hx | hx
    · obtain ⟨o, dx⟩ := h.1 x hx
      exact ⟨o, l.des dx⟩
    · rw [List.mem_singleton.mp hx]
      obtain ⟨o, dx⟩ := d
      exact ⟨o, l.des dx⟩
  · rw [List.length_append]
    exact Nat.succ_le_succ h.2
theorem near_for {D : Ends} {d pm pl fl lk : Addr} {m : M4} {x3 x5 x6 : Option V} {xs vs : List V} {H : Hp} (hlk : H lk = some (.lst xs)) (km : KM H xs) (hfl : H fl = some (.lst vs)) (dl : DL K H vs n) (hm : SqT K H pm (mV m)) (wm : Wn B2 m) (ne : lk ≠ fl) (hx : xs.length ≤ 100) (hn : n ≤ 500)
    (hd : ∀ H' x5 vs', But fl H H' → H' fl = some (.lst vs') → DL K H' vs' (n + xs.length) → D.nx [some (.ref d), some (.ref pm), some (.ref pl), x3, some (.ref fl), x5, x6] H') :
    ∃ W : Nat → Nat → L2.St → Hp → Prop, (∃ m, W 0 m [some (.ref d), some (.ref pm), some (.ref pl), x3, some (.ref fl), x5, x6] H) ∧ ∀ i m σ H, W i m σ H →
      ((Itl K lk).stop i H ∧ D.nx σ H) ∨ ((Itl K lk).go i H ∧ ∃ N : L2.St → Hp → Prop, (∀ σ' H', N σ' H' → ∃ m', m' < m ∧ W (i + 1) m' σ' H') ∧ ∀ x H', (Itl K lk).yld i H x H' → gName 5 x σ H' fun σ2 H2 =>
        tDrop (tBM K "list" rAppend (tVar 4) (tCons (tCall (sp_law_bf_product (K := K)) [] E0 (tCons (tVar 1) (tCons (tVar 5) tNil))) tNil)) { D with nx := N, ct := N, bk := D.nx } σ2 H2) := by
  refine for_list (K := K) (a := lk) (xs := xs) (fun i σ H' => ∃ (x5 : Option V) (vs' : List V), σ = [some (.ref d), some (.ref pm), some (.ref pl), x3, some (.ref fl), x5, x6] ∧ But fl H H' ∧ H' fl = some (.lst vs') ∧ DL K H' vs' (n + i))
    ⟨x5, vs, rfl, But.refl, hfl, dl⟩ (fun i σ H' _ z => ?_) ?_ ?_
  · obtain ⟨_, _, _, b, _⟩ := z
    exact sql_of (b _ _ ne hlk)
  · rintro i x σ H1 hi ⟨x5, vs', rfl, b, hfl1, dl1⟩
    have i100 : i < 100 := by
      have := (List.getElem?_eq_some_iff.mp hi).1
      omega
    obtain ⟨p, M, rfl, hp, wM⟩ := (km.but b hfl) x (List.mem_of_getElem? hi)
    refine ⟨.ref fl, rfl, .inl ⟨rfl, _, sql_of hfl1⟩, .ref pm, rfl, .ref p, rfl, pm, p, m, M, rfl, b.sqt hfl hm, sqt_of hp, wm.mB (by decide +kernel), wM.mB (by decide +kernel), fun t nt => ?_⟩
    have st := same_upd (o := .tup (mV (mul m M))) nt
    refine ⟨fl, vs', .ref t, rfl, rfl, st _ _ hfl1, small1000 (Nat.le_trans dl1.2 (by omega)), ?_⟩
    refine ⟨_, vs' ++ [.ref t], rfl, fun c o nc e => ?_, upd_same, ?_⟩
    · rw [upd_ne nc]
      exact st _ _ (b c o nc e)
    · exact dl_snoc (dl1.same st) (des_of (sqt_of upd_same) ((mul_wn wm wM).goods (by decide +kernel)) (by show 4 ≤ 1000; decide)) (st _ _ hfl1)
  · rintro σ H1 ⟨x5, vs', rfl, b, hfl1, dl1⟩
    exact hd H1 x5 vs' b hfl1 dl1
end
end K43
namespace K43
open PySem PySem.Spec PyProof.Rows L2
section
variable {K : PySem.W.Frag} {σ : L2.St} {H : Hp} {te ta tb : TE} {v : V} {n k : Nat} {p : Addr} {xs : List V} {D : Ends} {tz : TS}
theorem r_asgL {ts : TA} {i : Nat} (h : DA K ts σ H n) (hn : n ≤ 1000) (q : ∀ fl vs H', H fl = none → Same H H' → H' fl = some (.lst vs) → DL K H' vs n → tz D (σ.set i (some (.ref fl))) H') : tSeq (tAsg (tLst ts) (gName i)) tz D σ H :=
  h _ fun vs H1 s1 dl e => ⟨Nat.le_of_lt (small1000 (by omega)), fun fl nfl => q fl vs _ (s1.free nfl) (s1.trans (same_upd nfl)) upd_same (dl.same (same_upd nfl))⟩
theorem mV_int {m : M4} (h : Wn B2 m) : ∀ x ∈ mV m, ∃ i : Int, x = .int i ∧ (-B2 ≤ i ∧ i ≤ B2) := by
  obtain ⟨h1, h2, h3, h4⟩ := h
  intro x hx
  simp only [List.mem_cons, List.not_mem_nil, or_false] at hx
  rcases hx with rfl | rfl | rfl | rfl
  · exact ⟨_, rfl, h1⟩
  · exact ⟨_, rfl, h2⟩
  · exact ⟨_, rfl, h3⟩
  · exact ⟨_, rfl, h4⟩
theorem at4 {m : M4} (h : Wn B2 m) {r : Int} (h0 : 0 ≤ r) (h1 : r < 4) : ∃ x : Int, atI (mV m) r = some (.int x) ∧ (-B2 ≤ x ∧ x ≤ B2) := by
  obtain ⟨a1, a2, a3, a4⟩ := h
  have e : r = 0 ∨ r = 1 ∨ r = 2 ∨ r = 3 := by omega
  rcases e with rfl | rfl | rfl | rfl
  · exact ⟨m.1, rfl, a1⟩
  · exact ⟨m.2.1, rfl, a2⟩
  · exact ⟨m.2.2.1, rfl, a3⟩
  · exact ⟨m.2.2.2, rfl, a4⟩
theorem bd_B2 {x : Int} (h : -(2 ^ 301) ≤ x ∧ x ≤ 2 ^ 301) : Bd 1000 x := Bd.of h (by decide +kernel)
theorem dx_tupOf {ys : List V} (h : NL te σ H ys) (g : ∀ x ∈ ys, Good x) (hl : ys.length ≤ 1000) :
    DX K (tCB (fun xs H Q => ∃ p ys, xs = [.ref p] ∧ ((SqL K H p ys ∧ ∀ l, H l = none → Q (.ref l) (upd H l (.tup ys))) ∨ (SqT K H p ys ∧ Q (.ref p) H))) (tCons te tNil)) σ H := fun Q q =>
  h _ fun D H' hD s e => ⟨D, ys, rfl, .inl ⟨sql_of e, fun l nl => q (.ref l) _ (s.trans (same_upd nl)) (des_of (sqt_of upd_same) g hl)⟩⟩
def negV : V → V
  | .int i => .int (-i)
  | x => x
theorem But.same {a : Addr} {H0 H H' : Hp} (s : Same H0 H) (n : H0 a = none) (b : But a H H') : Same H0 H' := fun c o e => b c o (ne_of_none e n) (s c o e)
theorem km_of {H : Hp} {ks : List Addr} (h : KL H ks n) : KM H (ks.map V.ref) := fun x hx => by
  obtain ⟨c, hc, rfl⟩ := List.mem_map.mp hx
  obtain ⟨m, e, wm⟩ := h.1 c hc
  exact ⟨c, m, rfl, e, wm.mono (by decide)⟩
end
section
variable {P : Program} {w : World} {K : PySem.W.Frag} {mg : Str → Option Value} {base : Heap} (T : Txt K mg)
def sp_law_near : Sp := fun vs H Q _ => ∃ (d pm pl : Addr) (m : M4) (g : F3), vs = [.ref d, .ref pm, .ref pl] ∧ Dice H d ∧ SqT K H pm (mV m) ∧ SqT K H pl (fV g) ∧ fB g ∧ Wn B2 m ∧
  ∀ H' l vs, Fr d H H' → H' l = some (.lst vs) → DL K H' vs 300 → Q (.ref l) H'
theorem ok_law_near : FnOk P w K mg base CX0 4 T.a_law_near T.d_law_near ["_law_dice_here", "_law_matrix", "_law_least"] (sp_law_near (K := K)) := by
  refine T.F_law_near.ok c_law_near (fun vs H Q E h => ?_) (fun cdv A outer s H vs Q E hr h => ?_)
  · obtain ⟨d, pm, pl, m, g, rfl, _⟩ := h
    rfl
  · obtain ⟨d, pm, pl, m, g, rfl, hd, hm, hl, bg, wm, q⟩ := h
    refine ⟨_, PSs.nox (pss_cons (ps_set (i := 4) c_law_near.nd rfl (.inl rfl) (pe_lst (pa_cons (pv 1) (pa_cons (pe_callTy call_list_of (by rfl) T.n_list (by decide +kernel) (pa_cons (pv 1) pa_nil)) (pa_cons (pe_slice sl_tupA (pv 1) po_none (po_some pe_int)) (pa_cons (pe_op op_catA (pv 1) (pe_tup (pa_cons pe_int pa_nil))) (pa_cons (pe_callTy call_tuple_of (by rfl) T.n_tuple (by decide +kernel) (pa_cons (pe_lc (own := [("_law_entry", 3)]) (g := gName 3) (by rfl) c_law_near.nd (pi_tup (pv 1)) (blkOk_by (own := [("_law_entry", 3)]) (N := ["_law_dice_here", "_law_matrix", "_law_least", "_law_entry", "_law_found", "_law_keeper", "_law_at"]) (sc := defScope s_law_near) (by decide +kernel)) (fun _ _ _ _ _ => pg_name (i := 3) c_law_near.nd rfl (Or.inl rfl)) (fun _ _ _ _ _ => pts_nil) (fun _ _ _ _ _ => (pe_un un_neg (pv 3)))) pa_nil)) (pa_cons pe_non (pa_cons pe_int (pa_cons (pe_tup pa_nil) (pa_cons (pe_tup (pa_cons pe_int (pa_cons pe_int (pa_cons pe_int (pa_cons pe_int pa_nil))))) pa_nil)))))))))))
      (pss_cons (ps_for PassesOwn.never rfl (pi_list (pe_call (ok_law_bf_keepers T) (hr.mono (by decide)) (by rfl) T.g_law_bf_keepers T.F_law_bf_keepers.kp T.b_law_bf_keepers .nil pass0 (pa_cons (pv 2) pa_nil))) (pg_name (i := 5) c_law_near.nd rfl (.inl rfl)) (pss_one (ps_expr (pe_bm PySem.F.plainAttrs_list PySem.F.slot_list_append PySem.F.type_list_append mt_append (pv 4) (pa_cons (pe_call (ok_law_bf_product T) (hr.mono (by decide)) (by rfl) T.g_law_bf_product T.F_law_bf_product.kp T.b_law_bf_product .nil pass0 (pa_cons (pv 1) (pa_cons (pv 5) pa_nil))) pa_nil)))))
      (pss_cons (ps_for PassesOwn.never rfl (pi_list (pe_lst (pa_cons (pe_tup (pa_cons pe_int (pa_cons pe_int (pa_cons pe_int (pa_cons pe_int pa_nil))))) (pa_cons (pe_tup (pa_cons pe_int (pa_cons (pe_un un_neg pe_int) (pa_cons pe_int (pa_cons pe_int pa_nil))))) (pa_cons (pe_tup (pa_cons (pe_un un_neg pe_int) (pa_cons pe_int (pa_cons pe_int (pa_cons pe_int pa_nil))))) (pa_cons (pe_tup (pa_cons pe_int (pa_cons pe_int (pa_cons pe_int (pa_cons pe_int pa_nil))))) (pa_cons (pe_call (ok_law_bf_matrix T) (hr.mono (by decide)) (by rfl) T.g_law_bf_matrix T.F_law_bf_matrix.kp T.b_law_bf_matrix .nil pass0 (pa_cons (pv 0) (pa_cons pe_int pa_nil))) pa_nil))))))) (pg_name (i := 5) c_law_near.nd rfl (.inl rfl)) (pss_one (ps_expr (pe_bm PySem.F.plainAttrs_list PySem.F.slot_list_append PySem.F.type_list_append mt_append (pv 4) (pa_cons (pe_call (ok_law_bf_product T) (hr.mono (by decide)) (by rfl) T.g_law_bf_product T.F_law_bf_product.kp T.b_law_bf_product .nil pass0 (pa_cons (pv 1) (pa_cons (pv 5) pa_nil))) pa_nil)))))
      (pss_cons (ps_set (i := 6) c_law_near.nd rfl (.inl rfl) (pe_call (ok_law_roll T) (hr.mono (by decide)) (by rfl) T.g_law_roll T.F_law_roll.kp T.b_law_roll .nil pass0 (pa_cons (pv 0) (pa_cons pe_int pa_nil))))
      (pss_cons (ps_for PassesOwn.never rfl (pi_list (pe_lst (pa_cons (pe_op op_add (pe_ix ix_tup (pv 1) (pv 6) (fun _ _ => rfl)) pe_int) (pa_cons (pe_op op_sub (pe_ix ix_tup (pv 1) (pv 6) (fun _ _ => rfl)) pe_int) (pa_cons (pe_callTy call_str_int (by rfl) T.n_str (by decide +kernel) (pa_cons (pe_ix ix_tup (pv 1) (pv 6) (fun _ _ => rfl)) pa_nil)) (pa_cons pe_non (pa_cons pe_bl pa_nil))))))) (pg_name (i := 3) c_law_near.nd rfl (.inl rfl)) (pss_one (ps_expr (pe_bm PySem.F.plainAttrs_list PySem.F.slot_list_append PySem.F.type_list_append mt_append (pv 4) (pa_cons (pe_op op_catA (pe_op op_catA (pe_slice sl_tupA (pv 1) po_none (po_some (pv 6))) (pe_tup (pa_cons (pv 3) pa_nil))) (pe_slice sl_tupA (pv 1) (po_some (pe_op op_add (pv 6) pe_int)) po_none)) pa_nil)))))
      (pss_one (ps_ret (pv 4)))))))), ?_⟩
    have gm : ∀ x ∈ mV m, Good x := wm.goods (by decide +kernel)
    have l4 : (mV m).length ≤ 4 := Nat.le_refl 4
    -- the list
    refine r_asgL (K := K) (n := 9) (da_cons ((tx_var (n := 4) (pv_var rfl) hm gm l4).dx (by decide)) fun H1 s1 => da_cons ?e2 fun H2 s2 => da_cons ((tx_slice (n := 4) (pv_var rfl) (s2.sqt (s1.sqt hm)) gm l4 pvo_none (pvo_some pv_c)).dx (by decide)) fun H3 s3 =>
      da_cons ((tx_cat (n := 4) (k := 1) (tx_var (pv_var rfl) (s3.sqt (s2.sqt (s1.sqt hm))) gm l4) (fun H' _ => tx_one pv_c (good_int (Bd.mono (n := 128) (by decide) (by decide)))) (by decide)).dx (by decide)) fun H4 s4 => da_cons ?e5 fun H5 s5 => da_cons (dx_flat pv_c .non) fun H6 s6 => da_cons (dx_flat pv_c (.int 0)) fun H7 s7 =>
        da_cons ?e8 fun H8 s8 => da_cons ?e9 fun H9 s9 => da_nil) (by decide) fun fl vs H1 nfl s1 hfl dl => ?_
    case e2 => exact fun Q q => (pva_cons (pv_var rfl) pva_nil) _ ⟨pm, mV m, rfl, .inr (s1.sqt hm), fun l nl => q (.ref l) _ (same_upd nl) ⟨none, .lst upd_same⟩⟩
    case e5 =>
      refine dx_tupOf (nl_lcT (xs := mV m) negV (pv_var rfl) (s4.sqt (s3.sqt (s2.sqt (s1.sqt hm)))) (by show 4 ≤ 1000; decide) (fun x => rfl) fun x hx H' _ => ?_) (fun x hx => ?_) (by show 4 ≤ 1000; decide)
      · obtain ⟨i, rfl, _⟩ := mV_int wm x hx
        exact pv_neg (pv_var rfl)
      · obtain ⟨y, hy, rfl⟩ := List.mem_map.mp hx
        obtain ⟨i, rfl, hi⟩ := mV_int wm y hy
        refine good_int (bd_B2 ?_)
        have : (B2 : Int) ≤ 2 ^ 301 := by decide +kernel
        omega
    case e8 => exact fun Q q => ⟨Nat.zero_le _, fun l nl => q (.ref l) _ (same_upd nl) (des_of (sqt_of upd_same) (fun x hx => (by cases hx)) (Nat.zero_le _))⟩
    case e9 => exact fun Q q => (pva_cons pv_c (pva_cons pv_c (pva_cons pv_c (pva_cons pv_c pva_nil)))) _ ⟨(by show 4 ≤ sizeLine; decide), fun l nl => q (.ref l) _ (same_upd nl) (des_of (sqt_of (xs := mV idm) upd_same) (Wn.goods (n := 9) (by unfold idm Wn; decide) (by decide +kernel)) (by show 4 ≤ 1000; decide))⟩
    -- the keepers
    have fd : fl ≠ d := fun z => by
      obtain ⟨a1, a2, a3, e⟩ := hd
      rw [z] at nfl
      have e2 := e.symm.trans nfl
      cases e2
    refine ⟨.ref pl, rfl, pl, g, rfl, s1.sqt hl, bg, fun H2 lk ks s2 nlk hlk kl => ⟨lk, rfl, ⟨_, sql_of hlk⟩, ?_⟩⟩
    refine near_for (n := 9) hlk (km_of kl) (s2 _ _ hfl) (dl.same s2) ((s1.trans s2).sqt hm) wm (ne_of_none hfl nlk).symm (by rw [List.length_map]; exact Nat.le_trans kl.2 (by decide)) (by decide) fun H3 x5 vs3 b3 hfl3 dl3 => ?_
    have s3 : Same H H3 := But.same (s1.trans s2) nfl b3
    have dl3' : DL K H3 vs3 90 := ⟨dl3.1, Nat.le_trans dl3.2 (by rw [List.length_map]; have := kl.2; omega)⟩
    -- the told matrices
    refine ⟨(by show 4 ≤ sizeLine; decide), fun q0 n0 => ?_⟩
    have t0 := same_upd (o := .tup (mV (1, 1, 0, 1))) n0
    refine ⟨1, rfl, (by show 4 ≤ sizeLine; decide), fun q1 n1 => ?_⟩
    have t1 := same_upd (o := .tup (mV (0, -1, 1, 0))) n1
    refine ⟨1, rfl, (by show 4 ≤ sizeLine; decide), fun q2 n2 => ?_⟩
    have t2 := same_upd (o := .tup (mV (-1, 0, 0, 1))) n2
    refine ⟨(by show 4 ≤ sizeLine; decide), fun q3 n3 => ?_⟩
    have t3 := same_upd (o := .tup (mV (0, 1, 1, 0))) n3
    have tt := t0.trans (t1.trans (t2.trans t3))
    have e0 := t3 _ _ (t2 _ _ (t1 _ _ (upd_same (H := H3) (a := q0) (o := .tup (mV (1, 1, 0, 1))))))
    have e1 := t3 _ _ (t2 _ _ (upd_same (H := upd H3 q0 (.tup (mV (1, 1, 0, 1)))) (a := q1) (o := .tup (mV (0, -1, 1, 0)))))
    have e2 := t3 _ _ (upd_same (H := upd (upd H3 q0 (.tup (mV (1, 1, 0, 1)))) q1 (.tup (mV (0, -1, 1, 0)))) (a := q2) (o := .tup (mV (-1, 0, 0, 1))))
    have e3 := upd_same (H := upd (upd (upd H3 q0 (.tup (mV (1, 1, 0, 1)))) q1 (.tup (mV (0, -1, 1, 0)))) q2 (.tup (mV (-1, 0, 0, 1)))) (a := q3) (o := .tup (mV (0, 1, 1, 0)))
    generalize hH4 : upd (upd (upd (upd H3 q0 (.tup (mV (1, 1, 0, 1)))) q1 (.tup (mV (0, -1, 1, 0)))) q2 (.tup (mV (-1, 0, 0, 1)))) q3 (.tup (mV (0, 1, 1, 0))) = H4 at tt e0 e1 e2 e3
    have s4 := s3.trans tt
    have hd4 := hd.same s4
    refine ⟨.ref d, rfl, d, 3, rfl, hd4, by decide, by decide, fun H6 pB MB fr hB dB wB => ⟨(by show 5 ≤ sizeLine; decide), fun lk nlk => ⟨lk, rfl, ⟨_, sql_of upd_same⟩, ?_⟩⟩⟩
    have s6 := same_upd (o := .lst [.ref q0, .ref q1, .ref q2, .ref q3, .ref pB]) nlk
    have hfl6 : H6 fl = some (.lst vs3) := fr.1 _ _ fd (tt _ _ hfl3)
    have dl6 : DL K H6 vs3 90 := (fr_lr fr hd4).dl (dl3'.same tt)
    have hm6 : SqT K H6 pm (mV m) := fr.sqt hd4 (s4.sqt hm)
    have f6 : Fr d H H6 := ⟨fun b o n e => fr.1 b o n (s4 b o e), fr.2⟩
    have km : KM (upd H6 lk (.lst [.ref q0, .ref q1, .ref q2, .ref q3, .ref pB])) [.ref q0, .ref q1, .ref q2, .ref q3, .ref pB] := by
      intro x hx
      simp only [List.mem_cons, List.not_mem_nil, or_false] at hx
      have one : ∀ M : M4, Wn 9 M → Wn 1000000000 M := fun M h => h.mono (by decide)
      rcases hx with rfl | rfl | rfl | rfl | rfl
      · exact ⟨_, _, rfl, s6 _ _ (fr.tup hd4 e0), one _ (by unfold Wn; decide)⟩
      · exact ⟨_, _, rfl, s6 _ _ (fr.tup hd4 e1), one _ (by unfold Wn; decide)⟩
      · exact ⟨_, _, rfl, s6 _ _ (fr.tup hd4 e2), one _ (by unfold Wn; decide)⟩
      · exact ⟨_, _, rfl, s6 _ _ (fr.tup hd4 e3), one _ (by unfold Wn; decide)⟩
      · exact ⟨_, _, rfl, s6 _ _ hB, wB⟩
    refine near_for (n := 90) upd_same km (s6 _ _ hfl6) (dl6.same s6) (s6.sqt hm6) wm (ne_of_none hfl6 nlk).symm (by show 5 ≤ 100; decide) (by decide) fun H7 x5 vs7 b7 hfl7 dl7 => ?_
    have f7 : Fr d H H7 := by
      obtain ⟨a1, a2, a3, e⟩ := f6.2
      refine ⟨fun b o n e => b7 b o (ne_of_none e nfl) (s6 _ _ (f6.1 b o n e)), a1, a2, a3, ?_⟩
      exact b7 _ _ fd.symm (s6 _ _ e)
    have dl7' : DL K H7 vs7 95 := dl7
    have hm7 : SqT K H7 pm (mV m) := f7.sqt hd hm
    -- the place
    refine ⟨.ref d, rfl, d, 4, rfl, f7.2, by decide, by decide, fun r y0 y1 y2 r0 r1 => ?_⟩
    have fu : Fr d H7 (upd H7 d (dV y0 y1 y2)) := Fr.upd y0 y1 y2
    have f8 := f7.trans fu
    have hfl8 : (upd H7 d (dV y0 y1 y2)) fl = some (.lst vs7) := fu.1 _ _ fd hfl7
    have dl8 : DL K (upd H7 d (dV y0 y1 y2)) vs7 95 := (fr_lr fu f7.2).dl dl7'
    have hm8 : SqT K (upd H7 d (dV y0 y1 y2)) pm (mV m) := fu.sqt f7.2 hm7
    generalize hH8 : upd H7 d (dV y0 y1 y2) = H8 at f8 hfl8 dl8 hm8
    obtain ⟨x, ex, bx⟩ := at4 wm r0 r1
    have bx1 : Bd 1000 x := bd_B2 (by
      have : (B2 : Int) ≤ 2 ^ 301 := by decide +kernel
      omega)
    have bxs : x.natAbs.log2 < 1920 := Nat.lt_trans (PySem.Flt.log2_lt_of (by decide) bx1) (by decide)
    have gx : ∀ y ∈ [V.int (x + 1), .int (x - 1), .str (toString x), .non, .bl true], Good y := by
      intro y hy
      have k : (B2 : Int) + 1 ≤ 2 ^ 301 := by decide +kernel
      simp only [List.mem_cons, List.not_mem_nil, or_false] at hy
      rcases hy with rfl | rfl | rfl | rfl | rfl
      · exact good_int (bd_B2 (by omega))
      · exact good_int (bd_B2 (by omega))
      · exact good_str
      · exact good_non
      · exact good_bl
    refine ⟨.ref pm, rfl, .int r, rfl, pm, _, r, .int x, rfl, rfl, hm8, ex, x, 1, rfl, rfl, .ref pm, rfl, .int r, rfl, pm, _, r, .int x, rfl, rfl, hm8, ex, x, 1, rfl, rfl, .ref pm, rfl, .int r, rfl, pm, _, r, .int x, rfl, rfl, hm8, ex, x, rfl, bxs, (by show 5 ≤ sizeLine; decide), fun lk nlk => ⟨lk, rfl, ⟨_, sql_of upd_same⟩, ?_⟩⟩
    have s9 := same_upd (o := .lst [V.int (x + 1), .int (x - 1), .str (toString x), .non, .bl true]) nlk
    have nel : lk ≠ fl := (ne_of_none hfl8 nlk).symm
    refine for_list (K := K) (a := lk) (xs := [V.int (x + 1), .int (x - 1), .str (toString x), .non, .bl true]) (fun i σ H' => ∃ (x3 : Option V) (vs' : List V), σ = [some (.ref d), some (.ref pm), some (.ref pl), x3, some (.ref fl), x5, some (.int r)] ∧ But fl (upd H8 lk (.lst [V.int (x + 1), .int (x - 1), .str (toString x), .non, .bl true])) H' ∧ H' fl = some (.lst vs') ∧ DL K H' vs' (95 + i))
      ⟨none, vs7, rfl, But.refl, s9 _ _ hfl8, dl8.same s9⟩ (fun i σ H' _ z => ?_) ?_ ?_
    · obtain ⟨_, _, _, b, _⟩ := z
      exact sql_of (b _ _ nel upd_same)
    · rintro i y σ H' hi ⟨x3, vs', rfl, b, hfl', dl'⟩
      have i5 : i < 5 := (List.getElem?_eq_some_iff.mp hi).1
      have gy := gx y (List.mem_of_getElem? hi)
      have hm' : SqT K H' pm (mV m) := b.sqt (s9 _ _ hfl8) (s9.sqt hm8)
      refine ⟨.ref fl, rfl, .inl ⟨rfl, _, sql_of hfl'⟩, ?_⟩
      refine tx_cat (n := 5) (k := 4) (tx_cat (n := 4) (k := 1) (tx_slice (pv_var rfl) hm' gm l4 pvo_none (pvo_some (pv_var rfl))) (fun H2 _ => tx_one (pv_var rfl) gy) (by decide)) (fun H2 s2 => tx_slice (pv_var rfl) (s2.sqt hm') gm l4 (pvo_some (pv_op0 (pv_var rfl) pv_c)) pvo_none) (by decide) _ fun t H2 xs s2 ht gt lt => ?_
      refine ⟨fl, vs', .ref t, rfl, rfl, s2 _ _ hfl', small1000 (Nat.le_trans dl'.2 (by omega)), ?_⟩
      refine ⟨_, vs' ++ [.ref t], rfl, fun c o nc e => ?_, upd_same, dl_snoc (dl'.same s2) (des_of ht gt (by omega)) (s2 _ _ hfl')⟩
      rw [upd_ne nc]
      exact s2 _ _ (b c o nc e)
    · rintro σ H' ⟨x3, vs', rfl, b, hfl', dl'⟩
      refine ⟨.ref fl, rfl, q H' fl vs' ?_ hfl' ⟨dl'.1, Nat.le_trans dl'.2 (by show 95 + 5 ≤ 300; decide)⟩⟩
      obtain ⟨a1, a2, a3, e⟩ := f8.2
      exact ⟨fun c o n e => b c o (ne_of_none e nfl) (s9 _ _ (f8.1 c o n e)), a1, a2, a3, b _ _ fd.symm (s9 _ _ e)⟩
end
end K43
namespace K43
open PySem PySem.Spec PyProof.Rows L2
/-! ### the law's round -/
theorem mul_le_abs {x y X Y : Int} (hx : -X ≤ x ∧ x ≤ X) (hy : -Y ≤ y ∧ y ≤ Y) : -(X * Y) ≤ x * y ∧ x * y ≤ X * Y := by
  have e : (x * y).natAbs = x.natAbs * y.natAbs := Int.natAbs_mul x y
  have h : x.natAbs * y.natAbs ≤ X.natAbs * Y.natAbs := Nat.mul_le_mul (by omega) (by omega)
  have e2 : (X * Y).natAbs = X.natAbs * Y.natAbs := Int.natAbs_mul X Y
  have h0 : 0 ≤ X * Y := Int.mul_nonneg (by omega) (by omega)
  omega
theorem Dr.pd {f : F3} (h : Dr f) : Pd f := ⟨h.1, h.2.2.2.2.2⟩
theorem Dr.f60 {f : F3} (h : Dr f) : F60 f := by
  have hc := h.pd.c
  obtain ⟨h1, h2, h3, h4, h5, _⟩ := h
  have eG : G60 = 1000000000000000000000000000000000000000000000000000000000000 := rfl
  exact ⟨by omega, by omega, by omega⟩
theorem Dr.reach {f : F3} (h : Dr f) : reach 4000 f := by
  have e : f.1 < 2 ^ 24 := by
    have := h.2.1
    omega
  exact reach.mono 4000 (by decide) (reach_all h.pd e)
theorem Dr.disc {f : F3} (h : Dr f) : disc f ≤ 4000000000000000000000 := by
  have hc := h.pd.c
  obtain ⟨h1, h2, h3, h4, h5, _⟩ := h
  have a1 : f.1 * f.2.2 ≤ 10000000 * 100000000000000 := Int.mul_le_mul h2 h5 (by omega) (by omega)
  have a2 := sq_nn f.2.1
  have a3 : 4 * f.1 * f.2.2 = 4 * (f.1 * f.2.2) := by grind
  unfold K43.disc
  omega
theorem least_f60 {f g : F3} (hf : Dr f) (h : Red f g) : Pd g ∧ F60 g := by
  obtain ⟨lg, _, m, dm, em⟩ := h
  have pg : Pd g := em ▸ hf.pd.led dm
  have ed : K43.disc g = K43.disc f := by
    rw [← em, disc_led, dm]
    simp
  refine ⟨pg, ?_⟩
  have hd := hf.disc
  have hc := pg.c
  obtain ⟨a, b, c⟩ := g
  obtain ⟨⟨l1, l2, l3⟩, _⟩ := lg
  have ha : 0 < a := pg.1
  have eG : G60 = 1000000000000000000000000000000000000000000000000000000000000 := rfl
  rw [← ed] at hd
  simp only [K43.disc] at hd l1 l2 l3 hc
  have h1 := abs_le_sq l1 l2
  have h2 : a * a ≤ a * c := Int.mul_le_mul_of_nonneg_left l3 (by omega)
  have h3 : 1 * c ≤ a * c := Int.mul_le_mul_of_nonneg_right (by omega) (by omega)
  have h4 : 4 * a * c = 4 * (a * c) := by grind
  exact ⟨by simp only; omega, by simp only; omega, by simp only; omega⟩
theorem led_f60 {f : F3} {M : M4} (h : Dr f) (w : Wn 1000000000 M) (d : det M = 1) : Pd (led f M) ∧ F60 (led f M) := by
  have hc := h.pd.c
  refine ⟨h.pd.led d, ?_⟩
  obtain ⟨a, b, c⟩ := f
  obtain ⟨p, q, r, s⟩ := M
  obtain ⟨h1, h2, h3, h4, h5, _⟩ := h
  obtain ⟨w1, w2, w3, w4⟩ := w
  simp only at h1 h2 h3 h4 h5 w1 w2 w3 w4 hc
  have A : ∀ x y : Int, (-1000000000 ≤ x ∧ x ≤ 1000000000) → (-1000000000 ≤ y ∧ y ≤ 1000000000) → -(10000000 * 1000000000 * 1000000000) ≤ a * x * y ∧ a * x * y ≤ 10000000 * 1000000000 * 1000000000 := fun x y hx hy => mul_le_abs (mul_le_abs ⟨by omega, by omega⟩ hx) hy
  have B : ∀ x y : Int, (-1000000000 ≤ x ∧ x ≤ 1000000000) → (-1000000000 ≤ y ∧ y ≤ 1000000000) → -(10000000 * 1000000000 * 1000000000) ≤ b * x * y ∧ b * x * y ≤ 10000000 * 1000000000 * 1000000000 := fun x y hx hy => mul_le_abs (mul_le_abs ⟨by omega, by omega⟩ hx) hy
  have C : ∀ x y : Int, (-1000000000 ≤ x ∧ x ≤ 1000000000) → (-1000000000 ≤ y ∧ y ≤ 1000000000) → -(100000000000000 * 1000000000 * 1000000000) ≤ c * x * y ∧ c * x * y ≤ 100000000000000 * 1000000000 * 1000000000 := fun x y hx hy => mul_le_abs (mul_le_abs ⟨by omega, by omega⟩ hx) hy
  have e2 : 2 * a * p * q + b * (p * s + q * r) + 2 * c * r * s = 2 * (a * p * q) + (b * p * s + b * q * r) + 2 * (c * r * s) := by grind
  have a1 := A p p w1 w1
  have a2 := A q q w2 w2
  have a3 := A p q w1 w2
  have b1 := B p r w1 w3
  have b2 := B q s w2 w4
  have b3 := B p s w1 w4
  have b4 := B q r w2 w3
  have c1 := C r r w3 w3
  have c2 := C s s w4 w4
  have c3 := C r s w3 w4
  have eG : G60 = 1000000000000000000000000000000000000000000000000000000000000 := rfl
  simp only [F60, led]
  rw [e2]
  omega
theorem Red.led {f g : F3} {M : M4} (h : Red f g) (d : det M = 1) : Red (led f M) g := by
  obtain ⟨lg, wg, m, dm, em⟩ := h
  refine ⟨lg, wg, mul (inv M) m, ?_, ?_⟩
  · rw [det_mul, det_inv, d, dm] <;> rfl
  · rw [← led_mul, led_inv d rfl, em]
theorem rightO_red {f g : F3} {m : M4} (d : det m = 1) (e : K43.led f m = g) : rightO f g (some (mV m)) = true := by
  show (decide (det m = 1) && decide (K43.led f m = g)) = true
  rw [decide_eq_true d, decide_eq_true e]
  rfl
theorem wn_of {f : F3} {m : M4} (p : Pd f) (h : F60 f) (h2 : Wi G60 (K43.led f m)) (d : det m = 1) : Wn B2 m := by
  obtain ⟨h1, h2, h3, h4⟩ := mat_wi p h.wi h2 d
  have e : 2 * G60 ≤ B2 := by decide +kernel
  exact ⟨by omega, by omega, by omega, by omega⟩
section
variable {K : PySem.W.Frag} {σ : L2.St} {H : Hp} {t u : TT} {b c : Bool}
theorem xt_orX (h : XT t σ H b) (h2 : b = false → ∀ H', Same H H' → XT u σ H' c) : XT (tOr t u) σ H (b || c) := fun Q q => h _ fun H' s => by
  cases b with
  | true => exact iteT (q H' s)
  | false => exact iteF (h2 rfl H' s _ fun H2 s2 => q H2 (s.trans s2))
theorem xt_red {i j : Nat} {pf pl : Addr} {f g : F3} (h : σ[i]? = some (some (.ref pf))) (hj : σ[j]? = some (some (.ref pl))) (hS : SqT K H pf (fV f)) (hL : SqT K H pl (fV g)) (p : Pd f) (h60 : F60 f) (hr : Red f g) :
    XT (tTest (tOp (rNeD K) (tCall (sp_reduced_form (K := K)) [] E0 (tCons (tVar i) tNil)) (tVar j))) σ H false := fun Q q =>
  ⟨.ref pf, h, pf, f, rfl, hS, p, h60, fun H' r g' sm hg' rg' => ⟨.ref pl, hj, _, _, dp_f hg', dp_f (sm.sqt hL), sh_f _, sh_f _, false, by
    obtain rfl : g' = g := Red.uniq p rg' hr
    rw [eqv_f, decide_eq_true rfl] <;> rfl, q H' sm⟩⟩
end
section
variable {P : Program} {w : World} {K : PySem.W.Frag} {mg : Str → Option Value} {base : Heap} (T : Txt K mg)
def sp_law_right : Sp := fun vs H Q _ => ∃ d : Addr, vs = [.ref d] ∧ Dice H d ∧ ∀ H', Fr d H H' → Q (.bl true) H'
theorem pickI {i : Nat} {v : V} (h : [V.int 3, .int 6, .int 30, .int (10 ^ (7 : Int).toNat)][i]? = some v) : ∃ t : Int, v = .int t ∧ 0 < t ∧ t ≤ 10000000 := by
  match i, h with
  | 0, h => exact ⟨3, (Option.some.inj h).symm, by decide, by decide⟩
  | 1, h => exact ⟨6, (Option.some.inj h).symm, by decide, by decide⟩
  | 2, h => exact ⟨30, (Option.some.inj h).symm, by decide, by decide⟩
  | 3, h => exact ⟨10 ^ (7 : Int).toNat, (Option.some.inj h).symm, by decide +kernel, by decide +kernel⟩
  | i + 4, h => cases h
theorem ok_law_right : FnOk P w K mg base CX0 6 T.a_law_right T.d_law_right ["_law_dice_here"] sp_law_right := by
  refine T.F_law_right.ok c_law_right (fun vs H Q E h => ?_) (fun cdv A outer s H vs Q E hr h => ?_)
  · obtain ⟨d, rfl, _⟩ := h
    rfl
  · obtain ⟨d, rfl, hd, q⟩ := h
    refine ⟨_, PSs.nox (pss_cons (ps_set (i := 1) c_law_right.nd rfl (.inl rfl) (pe_call (ok_law_bf_drawn T) (hr.mono (by decide)) (by rfl) T.g_law_bf_drawn T.F_law_bf_drawn.kp T.b_law_bf_drawn .nil pass0 (pa_cons (pv 0) (pa_cons (pe_call (ok_law_pick T) (hr.mono (by decide)) (by rfl) T.g_law_pick T.F_law_pick.kp T.b_law_pick .nil pass0 (pa_cons (pv 0) (pa_cons (pe_lst (pa_cons pe_int (pa_cons pe_int (pa_cons pe_int (pa_cons (pe_op op_pow pe_int pe_int) pa_nil))))) pa_nil))) pa_nil))))
      (pss_cons (ps_set (i := 2) c_law_right.nd rfl (.inl rfl) (pe_ix ix_tup (pe_call (ok_law_bf_least T) (hr.mono (by decide)) (by rfl) T.g_law_bf_least T.F_law_bf_least.kp T.b_law_bf_least .nil pass0 (pa_cons (pv 1) pa_nil)) pe_int (fun _ _ => rfl)))
      (pss_cons (ps_if (PW.pt (pw_or (pt_cmpR (r := rNeD K) (op_neD hr.units) (pe_call (ok_reduced_form T) (hr.mono (by decide)) (by rfl) T.g_reduced_form T.F_reduced_form.kp T.b_reduced_form .nil pass0 (pa_cons (pv 1) pa_nil)) (pv 2) (nomark _)) (pw_or (pt_not (pt_val (pe_call (ok_is_reduced T) (hr.mono (by decide)) (by rfl) T.g_is_reduced T.F_is_reduced.kp T.b_is_reduced .nil pass0 (pa_cons (pv 2) pa_nil)))) (pw_or1 (pt_cmpR (r := rNeD K) (op_neD hr.units) (pe_call (ok_reduced_form T) (hr.mono (by decide)) (by rfl) T.g_reduced_form T.F_reduced_form.kp T.b_reduced_form .nil pass0 (pa_cons (pv 2) pa_nil)) (pv 2) (nomark _)))))) (pss_one (ps_ret pe_bl)) pss_nil)
      (pss_cons (ps_for PassesOwn.never rfl (pi_range1 (by rfl) T.n_range (pa_cons pe_int pa_nil)) (pg_name (i := 3) c_law_right.nd rfl (.inl rfl)) (pss_cons (ps_set (i := 4) c_law_right.nd rfl (.inl rfl) (pe_call (ok_law_bf_led T) (hr.mono (by decide)) (by rfl) T.g_law_bf_led T.F_law_bf_led.kp T.b_law_bf_led .nil pass0 (pa_cons (pv 1) (pa_cons (pe_call (ok_law_bf_matrix T) (hr.mono (by decide)) (by rfl) T.g_law_bf_matrix T.F_law_bf_matrix.kp T.b_law_bf_matrix .nil pass0 (pa_cons (pv 0) (pa_cons pe_int pa_nil))) pa_nil))))
      (pss_cons (ps_set (i := 5) c_law_right.nd rfl (.inl rfl) (pe_call (ok_reducing_matrix T) (hr.mono (by decide)) (by rfl) T.g_reducing_matrix T.F_reducing_matrix.kp T.b_reducing_matrix .nil pass0 (pa_cons (pv 4) pa_nil)))
      (pss_cons (ps_if (PW.pt (pw_or (pt_cmpR (r := rNeD K) (op_neD hr.units) (pe_call (ok_reduced_form T) (hr.mono (by decide)) (by rfl) T.g_reduced_form T.F_reduced_form.kp T.b_reduced_form .nil pass0 (pa_cons (pv 4) pa_nil)) (pv 2) (nomark _)) (pw_or1 (pt_not (pt_val (pe_call (ok_law_is_right_matrix T) (hr.mono (by decide)) (by rfl) T.g_law_is_right_matrix T.F_law_is_right_matrix.kp T.b_law_is_right_matrix .nil pass0 (pa_cons (pv 4) (pa_cons (pv 2) (pa_cons (pv 5) pa_nil))))))))) (pss_one (ps_ret pe_bl)) pss_nil)
      (pss_one (ps_for PassesOwn.never rfl (pi_list (pe_call (ok_law_near T) (hr.mono (by decide)) (by rfl) T.g_law_near T.F_law_near.kp T.b_law_near .nil pass0 (pa_cons (pv 0) (pa_cons (pv 5) (pa_cons (pv 2) pa_nil))))) (pg_name (i := 6) c_law_right.nd rfl (.inl rfl)) (pss_one (ps_if (pt_cmpR op_ne (pe_call (ok_is_reducing T) (hr.mono (by decide)) (by rfl) T.g_is_reducing T.F_is_reducing.kp T.b_is_reducing .nil pass0 (pa_cons (pv 4) (pa_cons (pv 6) pa_nil))) (pe_call (ok_law_is_right_matrix T) (hr.mono (by decide)) (by rfl) T.g_law_is_right_matrix T.F_law_is_right_matrix.kp T.b_law_is_right_matrix .nil pass0 (pa_cons (pv 4) (pa_cons (pv 2) (pa_cons (pv 6) pa_nil)))) (nomark _)) (pss_one (ps_ret pe_bl)) pss_nil))))))))
      (pss_one (ps_ret (pe_call (ok_is_reducing T) (hr.mono (by decide)) (by rfl) T.g_is_reducing T.F_is_reducing.kp T.b_is_reducing .nil pass0 (pa_cons (pv 1) (pa_cons (pe_ix ix_tup (pe_call (ok_law_bf_least T) (hr.mono (by decide)) (by rfl) T.g_law_bf_least T.F_law_bf_least.kp T.b_law_bf_least .nil pass0 (pa_cons (pv 1) pa_nil)) pe_int (fun _ _ => rfl)) pa_nil))))))))), ?_⟩
    -- the form
    refine ⟨.ref d, rfl, .ref d, rfl, 10, 7, rfl, rfl, ⟨by decide, by decide, by decide⟩, (by show 4 ≤ sizeLine; decide), fun l nl => ?_⟩
    have s0 := same_upd (o := .lst [V.int 3, .int 6, .int 30, .int (10 ^ (7 : Int).toNat)]) nl
    have ld : l ≠ d := fun z => by
      obtain ⟨a1, a2, a3, e⟩ := hd
      rw [z] at nl
      have e2 := e.symm.trans nl
      cases e2
    refine ⟨d, l, _, rfl, hd.same s0, ld, upd_same, (by show 0 < 4; decide), (by show 4 < 1000; decide), fun i v y0 y1 y2 hv => ?_⟩
    obtain ⟨t, rfl, t0, t1⟩ := pickI hv
    have f0 := (s0.fr hd).trans (Fr.upd y0 y1 y2)
    refine ⟨d, t, rfl, f0.2, t0, t1, fun H1 pf f fr1 hf drf => ?_⟩
    have f1 := f0.trans fr1
    have pdf := drf.pd
    have f60f := drf.f60
    -- the least one
    refine ⟨.ref pf, rfl, pf, f, rfl, sqt_of hf, pdf, f60f.wi, drf.reach, fun H2 p pl pm0 g m0 s2 hp hl hm0 lg wg dm0 em0 => ⟨p, _, 0, .ref pl, rfl, rfl, sqt_of hp, rfl, ?_⟩⟩
    have rg : Red f g := ⟨lg, wg, m0, dm0, em0⟩
    obtain ⟨pdg, f60g⟩ := least_f60 drf rg
    have rgg : Red g g := ⟨lg, wg, idm, det_id, led_id g⟩
    have f2 : Fr d H H2 := f1.same s2
    have hf2 : SqT K H2 pf (fV f) := sqt_of (s2 _ _ hf)
    -- the first test
    refine r_whenX (b := false || (false || false)) (xt_orX (xt_red rfl rfl hf2 hl pdf f60f rg) fun _ H3 s3 => xt_orX (xt_not (b := true) (xt_B (xv_call (pva_cons (pv_var rfl) pva_nil) fun Q q => ⟨pl, g, rfl, s3.sqt hl, pdg, f60g, fun H4 s4 => ?xr⟩))) fun _ H4 s4 => xt_red rfl rfl (s4.sqt (s3.sqt hl)) (s4.sqt (s3.sqt hl)) pdg f60g rgg) (fun e => by cases e) fun _ H3 s3 => ?_
    case xr =>
      rw [decide_eq_true lg]
      exact q H4 s4
    · have f3 := f2.same s3
      have hf3 := s3.sqt hf2
      have hl3 := s3.sqt hl
      have hd3 : Dice H3 d := f3.2
      -- three turns
      refine ⟨3, rfl, by decide, by decide, for_range (lo := 0) (n := 3) (fun i σ H' => ∃ x3 x4 x5 x6 : Option V, σ = [some (.ref d), some (.ref pf), some (.ref pl), x3, x4, x5, x6] ∧ Fr d H3 H') ⟨none, none, none, none, rfl, Fr.refl hd3⟩ ?_ ?_⟩
      · rintro i σ H4 hi ⟨x3, x4, x5, x6, rfl, f4⟩
        refine ⟨.ref pf, rfl, .ref d, rfl, d, 9, rfl, f4.2, by decide, by decide, fun H5 pM M f5 hM dM wM => ⟨pf, pM, f, M, rfl, f5.sqt f4.2 (f4.sqt hd3 hf3), sqt_of hM, wi_fB pdf f60f.wi, wM.mB (by decide +kernel), fun ph nh => ?_⟩⟩
        have s6 := same_upd (o := .tup (fV (led f M))) nh
        obtain ⟨pdh, f60h⟩ := led_f60 drf wM dM
        have rh : Red (led f M) g := rg.led dM
        have f6 := (f4.trans f5).same s6
        refine ⟨.ref ph, rfl, ph, led f M, rfl, sqt_of upd_same, pdh, f60h, fun H7 pm m s7 hm dm lm wm => ?_⟩
        have f7 := f6.same s7
        have em : led (led f M) m = g := Red.uniq pdh ⟨lm, wm, m, dm, rfl⟩ rh
        have wnm : Wn B2 m := wn_of pdh f60h wm dm
        have hh7 : SqT K H7 ph (fV (led f M)) := s7.sqt (sqt_of upd_same)
        have hl7 : SqT K H7 pl (fV g) := f7.sqt hd3 hl3
        have gm := wnm.goods (by decide +kernel)
        have dsm : ∀ H', Same H7 H' → Des K H' (.ref pm) (some (mV m)) := fun H' s => .tup (s.sqt hm) (by show 4 ≤ 1000; decide) fun x hx => ⟨(gm x hx).1, (gm x hx).2⟩
        refine r_whenX (b := false || false) (xt_orX (xt_red rfl rfl hh7 hl7 pdh f60h rh) fun _ H8 s8 => xt_not (b := true) (xt_B (xv_call (pva_cons (pv_var rfl) (pva_cons (pv_var rfl) (pva_cons (pv_var rfl) pva_nil))) fun Q q => ⟨ph, pl, led f M, g, .ref pm, _, rfl, s8.sqt hh7, s8.sqt hl7, wi_fB pdh f60h.wi, dsm H8 s8, fun H9 s9 => ?xr⟩))) (fun e => by cases e) fun _ H8 s8 => ?_
        case xr =>
          rw [rightO_red dm em]
          exact q H9 s9
        · have f8 := f7.same s8
          refine ⟨.ref d, rfl, .ref pm, rfl, .ref pl, rfl, d, pm, pl, m, g, rfl, f8.2, s8.sqt hm, s8.sqt hl7, wi_fB pdg f60g.wi, wnm, fun H9 lv vs f9 hlv dl => ⟨lv, rfl, ⟨_, sql_of hlv⟩, ?_⟩⟩
          have hh9 : SqT K H9 ph (fV (led f M)) := f9.sqt f8.2 (s8.sqt hh7)
          have hl9 : SqT K H9 pl (fV g) := f9.sqt f8.2 (s8.sqt hl7)
          refine for_list (K := K) (a := lv) (xs := vs) (fun j σ H' => ∃ x6 : Option V, σ = [some (.ref d), some (.ref pf), some (.ref pl), some (.int (0 + (i : Int))), some (.ref ph), some (.ref pm), x6] ∧ Same H9 H') ⟨x6, rfl, Same.refl H9⟩ (fun j σ H' _ z => ?_) ?_ ?_
          · obtain ⟨_, _, s10⟩ := z
            exact sql_of (s10 _ _ hlv)
          · rintro j x σ H10 hj ⟨x6, rfl, s10⟩
            obtain ⟨o, dx⟩ := dl.1 x (List.mem_of_getElem? hj)
            refine ⟨.ref ph, rfl, x, rfl, ph, led f M, g, x, o, rfl, s10.sqt hh9, pdh, f60h, rh, dx.same s10, fun H11 s11 => ?_⟩
            refine ⟨.ref ph, rfl, .ref pl, rfl, x, rfl, ph, pl, led f M, g, x, o, rfl, (s10.trans s11).sqt hh9, (s10.trans s11).sqt hl9, wi_fB pdh f60h.wi, dx.same (s10.trans s11), fun H12 s12 => ⟨rfl, false, ?_, ?_⟩⟩
            · rw [decide_eq_true rfl] <;> rfl
            · exact iteF ⟨_, rfl, s10.trans (s11.trans s12)⟩
          · rintro σ H10 ⟨x6, rfl, s10⟩
            exact ⟨_, _, _, _, rfl, (f8.trans f9).same s10⟩
      · rintro σ H4 ⟨x3, x4, x5, x6, rfl, f4⟩
        have hf4 := f4.sqt hd3 hf3
        refine ⟨.ref pf, rfl, .ref pf, rfl, pf, f, rfl, hf4, pdf, f60f.wi, drf.reach, fun H5 p pg pm g' m s5 hp hg hm lg' wg' dm em => ⟨p, _, 1, .ref pm, rfl, rfl, sqt_of hp, rfl, ?_⟩⟩
        have eg : g' = g := Red.uniq pdf ⟨lg', wg', m, dm, em⟩ rg
        have wnm : Wn B2 m := wn_of pdf f60f (by rw [em]; exact wg') dm
        have gm := wnm.goods (by decide +kernel)
        refine ⟨pf, f, g, .ref pm, some (mV m), rfl, s5.sqt hf4, pdf, f60f, rg, .tup hm (by show 4 ≤ 1000; decide) fun x hx => ⟨(gm x hx).1, (gm x hx).2⟩, fun H6 s6 => ?_⟩
        rw [rightO_red dm (em.trans eg)]
        exact q H6 ((f3.trans f4).same (s5.trans s6))
end
end K43
namespace K43
open PySem PySem.Spec PyProof.Rows L2
instance (f : F3) : Decidable (Pd f) := by unfold Pd; infer_instance
instance (n : Int) (f : F3) : Decidable (Wi n f) := by unfold Wi; infer_instance
theorem red_by {f g : F3} (m : M4) (h1 : Least g) (h2 : Wi G60 g) (h3 : det m = 1) (h4 : led f m = g) : Red f g := ⟨h1, h2, m, h3, h4⟩
theorem red_a : Red (6, 13, 8) (1, 1, 6) := red_by (-1, -2, 1, 1) (by decide) (by decide +kernel) (by decide) (by decide)
theorem red_b : Red (3, -5, 4) (2, -1, 3) := red_by (1, -1, 1, 0) (by decide) (by decide +kernel) (by decide) (by decide)
theorem red_c : Red (2, -2, 3) (2, 2, 3) := red_by (1, 1, 0, 1) (by decide) (by decide +kernel) (by decide) (by decide)
theorem red_d : Red (3, -1, 3) (3, 1, 3) := red_by (0, -1, 1, 0) (by decide) (by decide +kernel) (by decide) (by decide)
theorem red_e : Red (1, 5, 12) (1, 1, 6) := red_by (-1, 2, 0, -1) (by decide) (by decide +kernel) (by decide) (by decide)
theorem fr_same {d : Addr} {H H1 H2 : Hp} {o : HO} (n : H d = none) (f : Fr d (upd H d o) H2) : Same H H2 := fun b x e => by
  have nb : b ≠ d := ne_of_none e n
  exact f.1 b x nb (by rw [upd_ne nb]; exact e)
section
variable {P : Program} {w : World} {K : PySem.W.Frag} {mg : Str → Option Value} {base : Heap} (T : Txt K mg)
def sp_law : Sp := fun vs H Q _ => ∃ (a : Addr) (ns : List Int), vs = [.ref a] ∧ SqL K H a (ns.map V.int) ∧ ns.length ≤ 63 ∧ ∀ H', Q (.bl true) H'
theorem ok_law : FnOk P w K mg base CX0 7 T.a_law T.d_law ["_law_script"] (sp_law (K := K)) := by
  refine T.F_law.ok c_law (fun vs H Q E h => ?_) (fun cdv A outer s H vs Q E hr h => ?_)
  · obtain ⟨a, ns, rfl, _⟩ := h
    rfl
  · obtain ⟨a, ns, rfl, hS, hl, q⟩ := h
    refine ⟨_, PSs.nox (pss_cons (ps_for PassesOwn.never rfl (pi_range1 (by rfl) T.n_range (pa_cons (pe_callB (call_max2 rfl) (by rfl) T.n_max (by decide +kernel) (pa_cons pe_int (pa_cons (pe_callB (call_min2 rfl) (by rfl) T.n_min (by decide +kernel) (pa_cons pe_int (pa_cons (pe_callB call_len (by rfl) T.n_len (by decide +kernel) (pa_cons (pv 0) pa_nil)) pa_nil))) pa_nil))) pa_nil)) (pg_name (i := 1) c_law.nd rfl (.inl rfl)) (pss_cons (ps_set (i := 2) c_law.nd rfl (.inl rfl) (pe_call (ok_law_dice T) (hr.mono (by decide)) (by rfl) T.g_law_dice T.F_law_dice.kp T.b_law_dice .nil pass0 (pa_cons (pv 0) (pa_cons (pv 1) pa_nil))))
      (pss_one (ps_if (PW.pt (pw_or (pt_not (pt_val (pe_call (ok_law_right T) (hr.mono (by decide)) (by rfl) T.g_law_right T.F_law_right.kp T.b_law_right .nil pass0 (pa_cons (pv 2) pa_nil)))) (pw_or1 (pt_not (pt_val (pe_call (ok_law_right T) (hr.mono (by decide)) (by rfl) T.g_law_right T.F_law_right.kp T.b_law_right .nil pass0 (pa_cons (pv 2) pa_nil))))))) (pss_one (ps_ret pe_bl)) pss_nil))))
      (pss_cons (ps_set (i := 3) c_law.nd rfl (.inl rfl) (pe_lst (pa_cons (pe_call (ok_reduced_form T) (hr.mono (by decide)) (by rfl) T.g_reduced_form T.F_reduced_form.kp T.b_reduced_form .nil pass0 (pa_cons (pe_tup (pa_cons pe_int (pa_cons pe_int (pa_cons pe_int pa_nil)))) pa_nil)) (pa_cons (pe_call (ok_reduced_form T) (hr.mono (by decide)) (by rfl) T.g_reduced_form T.F_reduced_form.kp T.b_reduced_form .nil pass0 (pa_cons (pe_tup (pa_cons pe_int (pa_cons (pe_un un_neg pe_int) (pa_cons pe_int pa_nil)))) pa_nil)) (pa_cons (pe_call (ok_reduced_form T) (hr.mono (by decide)) (by rfl) T.g_reduced_form T.F_reduced_form.kp T.b_reduced_form .nil pass0 (pa_cons (pe_tup (pa_cons pe_int (pa_cons (pe_un un_neg pe_int) (pa_cons pe_int pa_nil)))) pa_nil)) (pa_cons (pe_call (ok_reduced_form T) (hr.mono (by decide)) (by rfl) T.g_reduced_form T.F_reduced_form.kp T.b_reduced_form .nil pass0 (pa_cons (pe_tup (pa_cons pe_int (pa_cons (pe_un un_neg pe_int) (pa_cons pe_int pa_nil)))) pa_nil)) pa_nil))))))
      (pss_one (ps_ret (pe_and (pe_cmpR (r := rEqD K) (op_eqD hr.units) (pv 3) (pe_lst (pa_cons (pe_tup (pa_cons pe_int (pa_cons pe_int (pa_cons pe_int pa_nil)))) (pa_cons (pe_tup (pa_cons pe_int (pa_cons (pe_un un_neg pe_int) (pa_cons pe_int pa_nil)))) (pa_cons (pe_tup (pa_cons pe_int (pa_cons pe_int (pa_cons pe_int pa_nil)))) (pa_cons (pe_tup (pa_cons pe_int (pa_cons pe_int (pa_cons pe_int pa_nil)))) pa_nil))))) (nomark _)) (pe_one (pe_call (ok_is_reducing T) (hr.mono (by decide)) (by rfl) T.g_is_reducing T.F_is_reducing.kp T.b_is_reducing .nil pass0 (pa_cons (pe_tup (pa_cons pe_int (pa_cons pe_int (pa_cons pe_int pa_nil)))) (pa_cons (pe_tup (pa_cons (pe_un un_neg pe_int) (pa_cons pe_int (pa_cons pe_int (pa_cons (pe_un un_neg pe_int) pa_nil))))) pa_nil))))))))), ?_⟩
    refine ⟨.ref a, rfl, .ref a, (ns.map V.int).length, rfl, .inl ⟨_, hS, rfl⟩, 3, ((ns.map V.int).length : Int), rfl, 1, _, rfl, ?_⟩
    generalize hj : (if (if ((ns.map V.int).length : Int) < 3 then ((ns.map V.int).length : Int) else 3) > 1 then (if ((ns.map V.int).length : Int) < 3 then ((ns.map V.int).length : Int) else 3) else 1) = j
    have j3 : j ≤ 3 := by
      rw [← hj]
      split
      · split <;> omega
      · omega
    have j1 : 1 ≤ j := by
      rw [← hj]
      split
      · split <;> omega
      · omega
    refine ⟨j, rfl, by omega, by omega, for_range (lo := 0) (n := j.toNat) (fun i σ H' => ∃ x1 x2 : Option V, σ = [some (.ref a), x1, x2, none] ∧ Same H H') ⟨none, none, rfl, Same.refl H⟩ ?_ ?_⟩
    · rintro i σ H1 hi ⟨x1, x2, rfl, s1⟩
      refine ⟨.ref a, rfl, .int (0 + (i : Int)), rfl, a, ns, 0 + (i : Int), rfl, s1.seq hS, by omega, by omega, by omega, fun p x y z np => ?_⟩
      refine ⟨.ref p, rfl, p, rfl, ⟨x, y, z, upd_same⟩, fun H2 f2 => ⟨true, rfl, iteF ⟨.ref p, rfl, p, rfl, f2.2, fun H3 f3 => ⟨true, rfl, iteF ⟨_, _, rfl, s1.trans (fr_same (H1 := H1) np (f2.trans f3))⟩⟩⟩⟩⟩
    · rintro σ H1 ⟨x1, x2, rfl, s1⟩
      -- the told ones
      refine ⟨(by show 3 ≤ sizeLine; decide), fun p0 n0 => ⟨p0, (6, 13, 8), rfl, sqt_of upd_same, by decide, by decide +kernel, fun H2 r0 g0 k0 h0 e0 => ?_⟩⟩
      obtain rfl := Red.uniq (by decide) e0 red_a
      refine ⟨5, rfl, (by show 3 ≤ sizeLine; decide), fun p1 n1 => ⟨p1, (3, -5, 4), rfl, sqt_of upd_same, by decide, by decide +kernel, fun H3 r1 g1 k1 h1 e1 => ?_⟩⟩
      obtain rfl := Red.uniq (by decide) e1 red_b
      refine ⟨2, rfl, (by show 3 ≤ sizeLine; decide), fun p2 n2 => ⟨p2, (2, -2, 3), rfl, sqt_of upd_same, by decide, by decide +kernel, fun H4 r2 g2 k2 h2 e2 => ?_⟩⟩
      obtain rfl := Red.uniq (by decide) e2 red_c
      refine ⟨1, rfl, (by show 3 ≤ sizeLine; decide), fun p3 n3 => ⟨p3, (3, -1, 3), rfl, sqt_of upd_same, by decide, by decide +kernel, fun H5 r3 g3 k3 h3 e3 => ?_⟩⟩
      obtain rfl := Red.uniq (by decide) e3 red_d
      refine ⟨(by show 4 ≤ sizeLine; decide), fun lt nlt => ?_⟩
      have t1 := (same_upd (o := .tup (fV (3, -5, 4))) n1).trans k1
      have t2 := (same_upd (o := .tup (fV (2, -2, 3))) n2).trans k2
      have t3 := (same_upd (o := .tup (fV (3, -1, 3))) n3).trans k3
      have t4 := same_upd (o := .lst [V.ref r0, .ref r1, .ref r2, .ref r3]) nlt
      have a0 := t4.sqt (t3.sqt (t2.sqt (t1.sqt h0)))
      have a1 := t4.sqt (t3.sqt (t2.sqt h1))
      have a2 := t4.sqt (t3.sqt h2)
      have a3 := t4.sqt h3
      have al : (upd H5 lt (.lst [V.ref r0, .ref r1, .ref r2, .ref r3])) lt = some (.lst [V.ref r0, .ref r1, .ref r2, .ref r3]) := upd_same
      generalize upd H5 lt (.lst [V.ref r0, .ref r1, .ref r2, .ref r3]) = H6 at a0 a1 a2 a3 al
      refine ⟨.ref lt, rfl, (by show 3 ≤ sizeLine; decide), fun q0 m0 => ?_⟩
      have u0 := same_upd (o := .tup (fV (1, 1, 6))) m0
      refine ⟨1, rfl, (by show 3 ≤ sizeLine; decide), fun q1 m1 => ?_⟩
      have u1 := same_upd (o := .tup (fV (2, -1, 3))) m1
      refine ⟨(by show 3 ≤ sizeLine; decide), fun q2 m2 => ?_⟩
      have u2 := same_upd (o := .tup (fV (2, 2, 3))) m2
      refine ⟨(by show 3 ≤ sizeLine; decide), fun q3 m3 => ?_⟩
      have u3 := same_upd (o := .tup (fV (3, 1, 3))) m3
      refine ⟨(by show 4 ≤ sizeLine; decide), fun lq mlq => ?_⟩
      have u4 := same_upd (o := .lst [V.ref q0, .ref q1, .ref q2, .ref q3]) mlq
      have b0 := u4 _ _ (u3 _ _ (u2 _ _ (u1 _ _ (upd_same (H := H6) (a := q0) (o := .tup (fV (1, 1, 6)))))))
      have b1 := u4 _ _ (u3 _ _ (u2 _ _ (upd_same (H := upd H6 q0 (.tup (fV (1, 1, 6)))) (a := q1) (o := .tup (fV (2, -1, 3))))))
      have b2 := u4 _ _ (u3 _ _ (upd_same (H := upd (upd H6 q0 (.tup (fV (1, 1, 6)))) q1 (.tup (fV (2, -1, 3)))) (a := q2) (o := .tup (fV (2, 2, 3)))))
      have b3 := u4 _ _ (upd_same (H := upd (upd (upd H6 q0 (.tup (fV (1, 1, 6)))) q1 (.tup (fV (2, -1, 3)))) q2 (.tup (fV (2, 2, 3)))) (a := q3) (o := .tup (fV (3, 1, 3))))
      have uu := u0.trans (u1.trans (u2.trans (u3.trans u4)))
      have c0 := uu.sqt a0
      have c1 := uu.sqt a1
      have c2 := uu.sqt a2
      have c3 := uu.sqt a3
      have cl := uu _ _ al
      have d0 := dp_f (f := (1, 1, 6)) c0
      have d1 := dp_f (f := (2, -1, 3)) c1
      have d2 := dp_f (f := (2, 2, 3)) c2
      have d3 := dp_f (f := (3, 1, 3)) c3
      refine ⟨_, _, .lst (sql_of cl) (.cons d0 (.cons d1 (.cons d2 (.cons d3 .nil)))),
        .lst (sql_of upd_same) (.cons (dp_f (f := (1, 1, 6)) (sqt_of b0)) (.cons (dp_f (f := (2, -1, 3)) (sqt_of b1)) (.cons (dp_f (f := (2, 2, 3)) (sqt_of b2)) (.cons (dp_f (f := (3, 1, 3)) (sqt_of b3)) .nil)))), by decide +kernel, by decide +kernel, true, congrArg V.bl (by decide +kernel), ?_⟩
      refine iteT ⟨(by show 3 ≤ sizeLine; decide), fun pf nf => ⟨1, rfl, 1, rfl, (by show 4 ≤ sizeLine; decide), fun pm nm => ?_⟩⟩
      have v1 := same_upd (o := .tup (mV (-1, 2, 0, -1))) nm
      have gm : ∀ x ∈ mV (-1, 2, 0, -1), Good x := Wn.goods (n := 9) (by unfold Wn; decide) (by decide +kernel)
      refine ⟨pf, (1, 5, 12), (1, 1, 6), .ref pm, some (mV (-1, 2, 0, -1)), rfl, v1.sqt (sqt_of upd_same), by decide, by decide +kernel, red_e, .tup (sqt_of upd_same) (by show 4 ≤ 1000; decide) fun x hx => ⟨(gm x hx).1, (gm x hx).2⟩, fun H' _ => ?_⟩
      rw [rightO_red (by decide) (by decide)]
      exact q H'
end
end K43
namespace K43
open PySem PySem.Spec PyProof.Rows L2
def D_is_whole : He.DefD := ⟨("is_whole", none), "is_whole", "is_whole", defArgs s_is_whole, defBody s_is_whole, defScope s_is_whole, [], []⟩
def D_is_integer : He.DefD := ⟨("is_integer", none), "is_integer", "is_integer", defArgs s_is_integer, defBody s_is_integer, defScope s_is_integer, [], []⟩
def D_measure_in : He.DefD := ⟨("measure_in", none), "measure_in", "measure_in", defArgs s_measure_in, defBody s_measure_in, defScope s_measure_in, [], []⟩
def D_is_form : He.DefD := ⟨("is_form", none), "is_form", "is_form", defArgs s_is_form, defBody s_is_form, defScope s_is_form, [], []⟩
def D_require_form : He.DefD := ⟨("require_form", none), "require_form", "require_form", defArgs s_require_form, defBody s_require_form, defScope s_require_form, [], []⟩
def D_is_turn : He.DefD := ⟨("is_turn", none), "is_turn", "is_turn", defArgs s_is_turn, defBody s_is_turn, defScope s_is_turn, [], []⟩
def D_value_at : He.DefD := ⟨("value_at", none), "value_at", "value_at", defArgs s_value_at, defBody s_value_at, defScope s_value_at, [], []⟩
def D_led_by : He.DefD := ⟨("led_by", none), "led_by", "led_by", defArgs s_led_by, defBody s_led_by, defScope s_led_by, [], []⟩
def D_product_of : He.DefD := ⟨("product_of", none), "product_of", "product_of", defArgs s_product_of, defBody s_product_of, defScope s_product_of, [], []⟩
def D_is_least : He.DefD := ⟨("is_least", none), "is_least", "is_least", defArgs s_is_least, defBody s_is_least, defScope s_is_least, [], []⟩
def D_reducing : He.DefD := ⟨("reducing", none), "reducing", "reducing", defArgs s_reducing, defBody s_reducing, defScope s_reducing, [], []⟩
def D_is_reduced : He.DefD := ⟨("is_reduced", none), "is_reduced", "is_reduced", defArgs s_is_reduced, defBody s_is_reduced, defScope s_is_reduced, [], []⟩
def D_reduced_form : He.DefD := ⟨("reduced_form", none), "reduced_form", "reduced_form", defArgs s_reduced_form, defBody s_reduced_form, defScope s_reduced_form, [], []⟩
def D_reducing_matrix : He.DefD := ⟨("reducing_matrix", none), "reducing_matrix", "reducing_matrix", defArgs s_reducing_matrix, defBody s_reducing_matrix, defScope s_reducing_matrix, [], []⟩
def D_is_reducing : He.DefD := ⟨("is_reducing", none), "is_reducing", "is_reducing", defArgs s_is_reducing, defBody s_is_reducing, defScope s_is_reducing, [], []⟩
def D_law_dice : He.DefD := ⟨("_law_dice", none), "_law_dice", "_law_dice", defArgs s_law_dice, defBody s_law_dice, defScope s_law_dice, [], []⟩
def D_law_roll : He.DefD := ⟨("_law_roll", none), "_law_roll", "_law_roll", defArgs s_law_roll, defBody s_law_roll, defScope s_law_roll, [], []⟩
def D_law_pick : He.DefD := ⟨("_law_pick", none), "_law_pick", "_law_pick", defArgs s_law_pick, defBody s_law_pick, defScope s_law_pick, [], []⟩
def D_law_bf_led : He.DefD := ⟨("_law_bf_led", none), "_law_bf_led", "_law_bf_led", defArgs s_law_bf_led, defBody s_law_bf_led, defScope s_law_bf_led, [], []⟩
def D_law_bf_product : He.DefD := ⟨("_law_bf_product", none), "_law_bf_product", "_law_bf_product", defArgs s_law_bf_product, defBody s_law_bf_product, defScope s_law_bf_product, [], []⟩
def D_law_bf_matrix : He.DefD := ⟨("_law_bf_matrix", none), "_law_bf_matrix", "_law_bf_matrix", defArgs s_law_bf_matrix, defBody s_law_bf_matrix, defScope s_law_bf_matrix, [], []⟩
def D_law_bf_is_least : He.DefD := ⟨("_law_bf_is_least", none), "_law_bf_is_least", "_law_bf_is_least", defArgs s_law_bf_is_least, defBody s_law_bf_is_least, defScope s_law_bf_is_least, [], []⟩
def D_law_bf_least : He.DefD := ⟨("_law_bf_least", none), "_law_bf_least", "_law_bf_least", defArgs s_law_bf_least, defBody s_law_bf_least, defScope s_law_bf_least, [], []⟩
def D_law_bf_drawn : He.DefD := ⟨("_law_bf_drawn", none), "_law_bf_drawn", "_law_bf_drawn", defArgs s_law_bf_drawn, defBody s_law_bf_drawn, defScope s_law_bf_drawn, [], []⟩
def D_law_bf_keepers : He.DefD := ⟨("_law_bf_keepers", none), "_law_bf_keepers", "_law_bf_keepers", defArgs s_law_bf_keepers, defBody s_law_bf_keepers, defScope s_law_bf_keepers, [], []⟩
def D_law_is_right_matrix : He.DefD := ⟨("_law_is_right_matrix", none), "_law_is_right_matrix", "_law_is_right_matrix", defArgs s_law_is_right_matrix, defBody s_law_is_right_matrix, defScope s_law_is_right_matrix, [], []⟩
def D_law_near : He.DefD := ⟨("_law_near", none), "_law_near", "_law_near", defArgs s_law_near, defBody s_law_near, defScope s_law_near, [], []⟩
def D_law_right : He.DefD := ⟨("_law_right", none), "_law_right", "_law_right", defArgs s_law_right, defBody s_law_right, defScope s_law_right, [], []⟩
def D_law : He.DefD := ⟨("law", none), "law", "law", defArgs s_law, defBody s_law, defScope s_law, [], []⟩
def fn : List He.DefD := [D_is_whole, D_is_integer, D_measure_in, D_is_form, D_require_form, D_is_turn, D_value_at, D_led_by, D_product_of, D_is_least, D_reducing, D_is_reduced, D_reduced_form, D_reducing_matrix, D_is_reducing, D_law_dice, D_law_roll, D_law_pick, D_law_bf_led, D_law_bf_product, D_law_bf_matrix, D_law_bf_is_least, D_law_bf_least, D_law_bf_drawn, D_law_bf_keepers, D_law_is_right_matrix, D_law_near, D_law_right, D_law]
def fa : List He.Fa := [.glo "is_whole", .glo "is_integer", .glo "measure_in", .glo "is_form", .glo "require_form", .glo "is_turn", .glo "value_at", .glo "led_by", .glo "product_of", .glo "is_least", .glo "reducing", .glo "is_reduced", .glo "reduced_form", .glo "reducing_matrix", .glo "is_reducing", .glo "_law_dice", .glo "_law_roll", .glo "_law_pick", .glo "_law_bf_led", .glo "_law_bf_product", .glo "_law_bf_matrix", .glo "_law_bf_is_least", .glo "_law_bf_least", .glo "_law_bf_drawn", .glo "_law_bf_keepers", .glo "_law_is_right_matrix", .glo "_law_near", .glo "_law_right", .glo "law", .free "isinstance", .free "int", .free "bool", .free "tuple", .free "len", .free "all", .free "max", .free "abs", .free "range", .free "min", .free "list", .free "str", .int "GREAT" 1000000000000000000000000000000000000000000000000000000000000, .int "FORM_SIZE" 3, .int "MATRIX_SIZE" 4, .glo "IDLE"]
def idle : List He.Dv := [.int 1, .int 0, .int 0, .int 1]
def loose : List Str := (["RoadError", "InvalidForm", "GREAT", "is_whole", "is_integer", "FORM_SIZE", "MATRIX_SIZE", "IDLE", "measure_in", "is_form", "require_form", "is_turn"] : List Str) ++ (["value_at", "led_by", "product_of", "is_least", "reducing", "is_reduced", "reduced_form", "reducing_matrix", "is_reducing", "_law_dice", "_law_roll", "_law_pick"] : List Str) ++ (["_law_bf_led", "_law_bf_product", "_law_bf_matrix", "_law_bf_is_least", "_law_bf_least", "_law_bf_drawn", "_law_bf_keepers", "_law_is_right_matrix", "_law_near", "_law_right"] : List Str)
abbrev R : PySem.W.OpenRow := PySem.W.OpenLaw.row PySem.Challenge.rw_levelroads_k43_whole_reducing
abbrev qv : Program := PySem.W.view R.prog [38]
abbrev Al : Type := He.AlD × Bool
def obsH (K : PySem.W.Frag) : Al := (He.obsD fa fn K, He.tupB K "IDLE" idle)
def obsHG (g : Addr → Option Obj) : Al := obsH (He.frG g (He.asD g 4))
abbrev hk : PySem.W.Hook where
  α := Al
  obs := fun s => obsHG s.heap.get?
  val := fun _ => (He.valD fn, true)
  says := fun _ h => ∃ K : PySem.W.Frag, K.In h ∧ obsH K = (He.valD fn, true)
  of := fun _ _ e => ⟨_, He.frG_in, e⟩
  keeps := fun _ _ _ ⟨K, hK, c⟩ k => ⟨K, PySem.W.Frag.In.keeps hK k, c⟩
def ob (s : PySem.W.SharedT) : Al := obsHG (HandSHeadRun.getT s)
theorem ob_eq (s : PySem.W.SharedT) : ob s = hk.obs s.abs := by
  have e : HandSHeadRun.getT s = s.abs.heap.get? := funext (HandSHeadRun.getT_eq s)
  unfold ob
  rw [e]
theorem run (w : World) : HandSHeadRun.RunEq R qv hk ob 6000 loose w := by
  intro os
  kernel_rfl
theorem txt {K : PySem.W.Frag} {h : Heap} {mg : Str → Option Value} (X : K.In h) (G : h.Ns mainGlobals mg) (c0 : obsH K = (He.valD fn, true)) : Nonempty (Txt K mg) := by
  have c : He.SaysD fa fn K := congrArg (fun z : Al => z.1) c0
  have ci : He.tupB K "IDLE" idle = true := congrArg (fun z : Al => z.2) c0
  obtain ⟨d_is_whole, F_is_whole⟩ := c.def_ 0 (d := D_is_whole) rfl
  obtain ⟨d_is_integer, F_is_integer⟩ := c.def_ 1 (d := D_is_integer) rfl
  obtain ⟨d_measure_in, F_measure_in⟩ := c.def_ 2 (d := D_measure_in) rfl
  obtain ⟨d_is_form, F_is_form⟩ := c.def_ 3 (d := D_is_form) rfl
  obtain ⟨d_require_form, F_require_form⟩ := c.def_ 4 (d := D_require_form) rfl
  obtain ⟨d_is_turn, F_is_turn⟩ := c.def_ 5 (d := D_is_turn) rfl
  obtain ⟨d_value_at, F_value_at⟩ := c.def_ 6 (d := D_value_at) rfl
  obtain ⟨d_led_by, F_led_by⟩ := c.def_ 7 (d := D_led_by) rfl
  obtain ⟨d_product_of, F_product_of⟩ := c.def_ 8 (d := D_product_of) rfl
  obtain ⟨d_is_least, F_is_least⟩ := c.def_ 9 (d := D_is_least) rfl
  obtain ⟨d_reducing, F_reducing⟩ := c.def_ 10 (d := D_reducing) rfl
  obtain ⟨d_is_reduced, F_is_reduced⟩ := c.def_ 11 (d := D_is_reduced) rfl
  obtain ⟨d_reduced_form, F_reduced_form⟩ := c.def_ 12 (d := D_reduced_form) rfl
  obtain ⟨d_reducing_matrix, F_reducing_matrix⟩ := c.def_ 13 (d := D_reducing_matrix) rfl
  obtain ⟨d_is_reducing, F_is_reducing⟩ := c.def_ 14 (d := D_is_reducing) rfl
  obtain ⟨d_law_dice, F_law_dice⟩ := c.def_ 15 (d := D_law_dice) rfl
  obtain ⟨d_law_roll, F_law_roll⟩ := c.def_ 16 (d := D_law_roll) rfl
  obtain ⟨d_law_pick, F_law_pick⟩ := c.def_ 17 (d := D_law_pick) rfl
  obtain ⟨d_law_bf_led, F_law_bf_led⟩ := c.def_ 18 (d := D_law_bf_led) rfl
  obtain ⟨d_law_bf_product, F_law_bf_product⟩ := c.def_ 19 (d := D_law_bf_product) rfl
  obtain ⟨d_law_bf_matrix, F_law_bf_matrix⟩ := c.def_ 20 (d := D_law_bf_matrix) rfl
  obtain ⟨d_law_bf_is_least, F_law_bf_is_least⟩ := c.def_ 21 (d := D_law_bf_is_least) rfl
  obtain ⟨d_law_bf_least, F_law_bf_least⟩ := c.def_ 22 (d := D_law_bf_least) rfl
  obtain ⟨d_law_bf_drawn, F_law_bf_drawn⟩ := c.def_ 23 (d := D_law_bf_drawn) rfl
  obtain ⟨d_law_bf_keepers, F_law_bf_keepers⟩ := c.def_ 24 (d := D_law_bf_keepers) rfl
  obtain ⟨d_law_is_right_matrix, F_law_is_right_matrix⟩ := c.def_ 25 (d := D_law_is_right_matrix) rfl
  obtain ⟨d_law_near, F_law_near⟩ := c.def_ 26 (d := D_law_near) rfl
  obtain ⟨d_law_right, F_law_right⟩ := c.def_ 27 (d := D_law_right) rfl
  obtain ⟨d_law, F_law⟩ := c.def_ 28 (d := D_law) rfl
  exact ⟨⟨_, d_is_whole, F_is_whole, He.glo_ok X G (c.fact 0 (f := .glo "is_whole") rfl), FunD.bindsN (ps := ["value"]) F_is_whole fun _ _ _ _ _ _ us hl => match us, hl with | [_], _ => rfl,
    _, d_is_integer, F_is_integer, He.glo_ok X G (c.fact 1 (f := .glo "is_integer") rfl), FunD.bindsN (ps := ["value"]) F_is_integer fun _ _ _ _ _ _ us hl => match us, hl with | [_], _ => rfl,
    _, d_measure_in, F_measure_in, He.glo_ok X G (c.fact 2 (f := .glo "measure_in") rfl), FunD.bindsN (ps := ["form"]) F_measure_in fun _ _ _ _ _ _ us hl => match us, hl with | [_], _ => rfl,
    _, d_is_form, F_is_form, He.glo_ok X G (c.fact 3 (f := .glo "is_form") rfl), FunD.bindsN (ps := ["value"]) F_is_form fun _ _ _ _ _ _ us hl => match us, hl with | [_], _ => rfl,
    _, d_require_form, F_require_form, He.glo_ok X G (c.fact 4 (f := .glo "require_form") rfl), FunD.bindsN (ps := ["value"]) F_require_form fun _ _ _ _ _ _ us hl => match us, hl with | [_], _ => rfl,
    _, d_is_turn, F_is_turn, He.glo_ok X G (c.fact 5 (f := .glo "is_turn") rfl), FunD.bindsN (ps := ["value"]) F_is_turn fun _ _ _ _ _ _ us hl => match us, hl with | [_], _ => rfl,
    _, d_value_at, F_value_at, He.glo_ok X G (c.fact 6 (f := .glo "value_at") rfl), FunD.bindsN (ps := ["form", "x", "y"]) F_value_at fun _ _ _ _ _ _ us hl => match us, hl with | [_, _, _], _ => rfl,
    _, d_led_by, F_led_by, He.glo_ok X G (c.fact 7 (f := .glo "led_by") rfl), FunD.bindsN (ps := ["form", "matrix"]) F_led_by fun _ _ _ _ _ _ us hl => match us, hl with | [_, _], _ => rfl,
    _, d_product_of, F_product_of, He.glo_ok X G (c.fact 8 (f := .glo "product_of") rfl), FunD.bindsN (ps := ["one", "other"]) F_product_of fun _ _ _ _ _ _ us hl => match us, hl with | [_, _], _ => rfl,
    _, d_is_least, F_is_least, He.glo_ok X G (c.fact 9 (f := .glo "is_least") rfl), FunD.bindsN (ps := ["form"]) F_is_least fun _ _ _ _ _ _ us hl => match us, hl with | [_], _ => rfl,
    _, d_reducing, F_reducing, He.glo_ok X G (c.fact 10 (f := .glo "reducing") rfl), FunD.bindsN (ps := ["form"]) F_reducing fun _ _ _ _ _ _ us hl => match us, hl with | [_], _ => rfl,
    _, d_is_reduced, F_is_reduced, He.glo_ok X G (c.fact 11 (f := .glo "is_reduced") rfl), FunD.bindsN (ps := ["form"]) F_is_reduced fun _ _ _ _ _ _ us hl => match us, hl with | [_], _ => rfl,
    _, d_reduced_form, F_reduced_form, He.glo_ok X G (c.fact 12 (f := .glo "reduced_form") rfl), FunD.bindsN (ps := ["form"]) F_reduced_form fun _ _ _ _ _ _ us hl => match us, hl with | [_], _ => rfl,
    _, d_reducing_matrix, F_reducing_matrix, He.glo_ok X G (c.fact 13 (f := .glo "reducing_matrix") rfl), FunD.bindsN (ps := ["form"]) F_reducing_matrix fun _ _ _ _ _ _ us hl => match us, hl with | [_], _ => rfl,
    _, d_is_reducing, F_is_reducing, He.glo_ok X G (c.fact 14 (f := .glo "is_reducing") rfl), FunD.bindsN (ps := ["form", "value"]) F_is_reducing fun _ _ _ _ _ _ us hl => match us, hl with | [_, _], _ => rfl,
    _, d_law_dice, F_law_dice, He.glo_ok X G (c.fact 15 (f := .glo "_law_dice") rfl), FunD.bindsN (ps := ["_law_script", "_law_spot"]) F_law_dice fun _ _ _ _ _ _ us hl => match us, hl with | [_, _], _ => rfl,
    _, d_law_roll, F_law_roll, He.glo_ok X G (c.fact 16 (f := .glo "_law_roll") rfl), FunD.bindsN (ps := ["_law_dice_here", "_law_total"]) F_law_roll fun _ _ _ _ _ _ us hl => match us, hl with | [_, _], _ => rfl,
    _, d_law_pick, F_law_pick, He.glo_ok X G (c.fact 17 (f := .glo "_law_pick") rfl), FunD.bindsN (ps := ["_law_dice_here", "_law_items"]) F_law_pick fun _ _ _ _ _ _ us hl => match us, hl with | [_, _], _ => rfl,
    _, d_law_bf_led, F_law_bf_led, He.glo_ok X G (c.fact 18 (f := .glo "_law_bf_led") rfl), FunD.bindsN (ps := ["_law_form", "_law_matrix"]) F_law_bf_led fun _ _ _ _ _ _ us hl => match us, hl with | [_, _], _ => rfl,
    _, d_law_bf_product, F_law_bf_product, He.glo_ok X G (c.fact 19 (f := .glo "_law_bf_product") rfl), FunD.bindsN (ps := ["_law_one", "_law_other"]) F_law_bf_product fun _ _ _ _ _ _ us hl => match us, hl with | [_, _], _ => rfl,
    _, d_law_bf_matrix, F_law_bf_matrix, He.glo_ok X G (c.fact 20 (f := .glo "_law_bf_matrix") rfl), FunD.bindsN (ps := ["_law_dice_here", "_law_most"]) F_law_bf_matrix fun _ _ _ _ _ _ us hl => match us, hl with | [_, _], _ => rfl,
    _, d_law_bf_is_least, F_law_bf_is_least, He.glo_ok X G (c.fact 21 (f := .glo "_law_bf_is_least") rfl), FunD.bindsN (ps := ["_law_form"]) F_law_bf_is_least fun _ _ _ _ _ _ us hl => match us, hl with | [_], _ => rfl,
    _, d_law_bf_least, F_law_bf_least, He.glo_ok X G (c.fact 22 (f := .glo "_law_bf_least") rfl), FunD.bindsN (ps := ["_law_form"]) F_law_bf_least fun _ _ _ _ _ _ us hl => match us, hl with | [_], _ => rfl,
    _, d_law_bf_drawn, F_law_bf_drawn, He.glo_ok X G (c.fact 23 (f := .glo "_law_bf_drawn") rfl), FunD.bindsN (ps := ["_law_dice_here", "_law_high"]) F_law_bf_drawn fun _ _ _ _ _ _ us hl => match us, hl with | [_, _], _ => rfl,
    _, d_law_bf_keepers, F_law_bf_keepers, He.glo_ok X G (c.fact 24 (f := .glo "_law_bf_keepers") rfl), FunD.bindsN (ps := ["_law_form"]) F_law_bf_keepers fun _ _ _ _ _ _ us hl => match us, hl with | [_], _ => rfl,
    _, d_law_is_right_matrix, F_law_is_right_matrix, He.glo_ok X G (c.fact 25 (f := .glo "_law_is_right_matrix") rfl), FunD.bindsN (ps := ["_law_form", "_law_least", "_law_value"]) F_law_is_right_matrix fun _ _ _ _ _ _ us hl => match us, hl with | [_, _, _], _ => rfl,
    _, d_law_near, F_law_near, He.glo_ok X G (c.fact 26 (f := .glo "_law_near") rfl), FunD.bindsN (ps := ["_law_dice_here", "_law_matrix", "_law_least"]) F_law_near fun _ _ _ _ _ _ us hl => match us, hl with | [_, _, _], _ => rfl,
    _, d_law_right, F_law_right, He.glo_ok X G (c.fact 27 (f := .glo "_law_right") rfl), FunD.bindsN (ps := ["_law_dice_here"]) F_law_right fun _ _ _ _ _ _ us hl => match us, hl with | [_], _ => rfl,
    _, d_law, F_law, He.glo_ok X G (c.fact 28 (f := .glo "law") rfl), FunD.bindsN (ps := ["_law_script"]) F_law fun _ _ _ _ _ _ us hl => match us, hl with | [_], _ => rfl,
    He.free_ok X G (c.fact 29 (f := .free "isinstance") rfl),
    He.free_ok X G (c.fact 30 (f := .free "int") rfl),
    He.free_ok X G (c.fact 31 (f := .free "bool") rfl),
    He.free_ok X G (c.fact 32 (f := .free "tuple") rfl),
    He.free_ok X G (c.fact 33 (f := .free "len") rfl),
    He.free_ok X G (c.fact 34 (f := .free "all") rfl),
    He.free_ok X G (c.fact 35 (f := .free "max") rfl),
    He.free_ok X G (c.fact 36 (f := .free "abs") rfl),
    He.free_ok X G (c.fact 37 (f := .free "range") rfl),
    He.free_ok X G (c.fact 38 (f := .free "min") rfl),
    He.free_ok X G (c.fact 39 (f := .free "list") rfl),
    He.free_ok X G (c.fact 40 (f := .free "str") rfl),
    He.int_ok X G (c.fact 41 (f := .int "GREAT" 1000000000000000000000000000000000000000000000000000000000000) rfl),
    He.int_ok X G (c.fact 42 (f := .int "FORM_SIZE" 3) rfl),
    He.int_ok X G (c.fact 43 (f := .int "MATRIX_SIZE" 4) rfl),
    _, He.glo_ok X G (c.fact 44 (f := .glo "IDLE") rfl), fun H => He.tupB_ok ci H⟩⟩
end K43
namespace K43
open PySem PySem.Spec PyProof.Rows L2
theorem facts {P : Program} {w : World} {K : PySem.W.Frag} {h : Heap} {mg : Str → Option Value} {f : Addr} (X : K.In h) (G : h.Ns mainGlobals mg) (hfa : mg ("law" : Str) = some (.ref f)) (c : obsH K = (He.valD fn, true)) :
    ∃ fd : FuncData, (∀ (s : Shared) (v : Value), BindsTo s fd ⟨[v], []⟩ [("_law_script", v)]) ∧ ∀ base : Heap, K.In base → base.Ns mainGlobals mg → FnOk P w K mg base CX0 7 f fd ["_law_script"] (sp_law (K := K)) := by
  obtain ⟨T⟩ := txt X G c
  have e := hfa.symm.trans T.g_law
  cases e
  have b := FunD.bindsA (ps := ["_law_script"]) T.F_law fun _ _ _ _ _ _ us hl => match us, hl with | [_], _ => rfl
  exact ⟨T.d_law, fun s v => b s [v] rfl, fun base _ _ => ok_law T⟩
end K43
open PySem PySem.W PySem.Calls PyProof.Rows
theorem PySem.Challenge.cw_levelroads_k43_whole_reducing_holds : PySem.Challenge.rw_levelroads_k43_whole_reducing.Holds := by
  w_on; o_law
  refine HandSHeadRun.head_any (r := OpenLaw.row PySem.Challenge.rw_levelroads_k43_whole_reducing) (q := view (OpenLaw.row PySem.Challenge.rw_levelroads_k43_whole_reducing).prog [38]) (H := K43.hk) (ob := K43.ob) (M := 6000) (loose := K43.loose) (d := HandSHeadRun.topDef (OpenLaw.row PySem.Challenge.rw_levelroads_k43_whole_reducing).prog 38) (kwd := []) K43.ob_eq
    (by kernel_rfl) (fun s => by kernel_rfl) K43.run (by kernel_rfl) (by kernel_rfl) (by kernel_rfl) (by rfl) (by first | assumption | decide +kernel) (by decide +kernel) ⟨rfl, rfl, rfl, rfl, rfl, by decide +kernel⟩ ?hw ?hc
  case hw => w_witness2
  case hc =>
    refine L2.walk_ofE (l := PySem.Challenge.rw_levelroads_k43_whole_reducing) (n := 63) (k := 7) (x := "_law_script") (CX := L2.CX0) rfl (by decide) (by kernel_rfl) ⟨rfl, by decide, by decide⟩ ?F (fun _ _ _ _ z => z)
    intro w mg fa h Y G hmg0
    obtain ⟨K, KX, c⟩ := Y
    have hmg : mg ("law" : PySem.Str) = some (.ref fa) := by
      have e : (HandSHeadRun.topDef (OpenLaw.row PySem.Challenge.rw_levelroads_k43_whole_reducing).prog 38).name = ("law" : PySem.Str) := by kernel_rfl
      rw [← e]
      exact hmg0
    obtain ⟨fd, hb, hF⟩ := K43.facts (P := (PySem.Challenge.rw_levelroads_k43_whole_reducing).prog) (w := w) KX G hmg c
    exact ⟨K, fd, K43.sp_law, KX, hb, fun H a ns hl _ hS => ⟨a, ns, rfl, hS, hl, fun _ => rfl⟩, hF⟩
