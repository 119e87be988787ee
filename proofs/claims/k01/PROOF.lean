import PyProof.Rows.All
import Wide.All
import OpenK.AllK
import Wide.FinOn
import HandS.ForMost
import HandS.Wide
import HandS.IsInst
import HandS.Deep
import HandS.Exc
import HandS.ExcOwn
import HandS.WordsExc
import HandS.ExcIs
import HandS.HotCalls
import PySem.Challenge.RW_twoline_k01_lines_through_two_points
set_option Elab.async false
set_option linter.all false
set_option maxRecDepth 100000
set_option maxHeartbeats 4000000
namespace Tw

abbrev P2 := Int × Int
abbrev L3 := Int × Int × Int

/-! ### gcd by while -/
theorem gcd_turn {a b : Int} (ha : 0 ≤ a) (hb : 0 < b) : Int.gcd b (a % b) = Int.gcd a b ∧ 0 ≤ a % b ∧ a % b < b := by
  refine ⟨?_, Int.emod_nonneg _ (by omega), Int.emod_lt_of_pos _ hb⟩
  have h : a % b = a - b * (a / b) := by have := Int.mul_ediv_add_emod a b; omega
  rw [h, Int.gcd_sub_mul_left_right, Int.gcd_comm]

def cm (a b : Int) : Int := (Int.gcd a b : Nat)
theorem cm_nonneg (a b : Int) : 0 ≤ cm a b := Int.natCast_nonneg _
theorem cm_pos {a b : Int} (h : a ≠ 0 ∨ b ≠ 0) : 0 < cm a b := by
  have := Int.gcd_pos_iff.mpr h
  unfold cm; omega
theorem cm_abs (a b : Int) : cm (if a < 0 then -a else a) (if b < 0 then -b else b) = cm a b := by
  unfold cm
  split <;> split <;> simp [Int.gcd_neg, Int.neg_gcd]
theorem cm_dvd_left (a b : Int) : cm a b ∣ a := Int.gcd_dvd_left a b
theorem cm_dvd_right (a b : Int) : cm a b ∣ b := Int.gcd_dvd_right a b
theorem cm_mul (k a b : Int) : cm (k * a) (k * b) = k.natAbs * cm a b := by
  unfold cm
  rw [Int.gcd_mul_left]
  simp
theorem cm_natAbs (a b : Int) : (cm a b).natAbs = Int.gcd a b := by
  unfold cm; simp
theorem cm_le_left {a : Int} (b : Int) (h : a ≠ 0) : (cm a b).natAbs ≤ a.natAbs := by
  rw [cm_natAbs]; exact Int.gcd_le_natAbs_left b h
theorem cm_le_right (a : Int) {b : Int} (h : b ≠ 0) : (cm a b).natAbs ≤ b.natAbs := by
  rw [cm_natAbs]; exact Int.gcd_le_natAbs_right a h

/-! ### exact division -/
theorem fdiv_mul {d x : Int} (h : d ≠ 0) : (d * x).fdiv d = x := Int.mul_fdiv_cancel_left x h
theorem fdiv_pos {a d : Int} (h : 0 ≤ d) : a.fdiv d = a / d := Int.fdiv_eq_ediv_of_nonneg a h

/-! ### a line in lowest numbers -/
/-- the first nonzero one of the two is below nought -/
def Low (a b : Int) : Prop := a < 0 ∨ (a = 0 ∧ b < 0)
instance (a b : Int) : Decidable (Low a b) := by unfold Low; infer_instance
def dv (a b c : Int) : Int := if Low a b then 0 - cm (cm a b) c else cm (cm a b) c
def norm3 (a b c : Int) : L3 := (a.fdiv (dv a b c), b.fdiv (dv a b c), c.fdiv (dv a b c))

theorem cm3_pos {a b : Int} (c : Int) (h : a ≠ 0 ∨ b ≠ 0) : 0 < cm (cm a b) c := cm_pos (.inl (by have := cm_pos h; omega))
theorem dv_ne {a b : Int} (c : Int) (h : a ≠ 0 ∨ b ≠ 0) : dv a b c ≠ 0 := by
  have := cm3_pos c h
  unfold dv; split <;> omega
theorem cm3_dvd (a b c : Int) : cm (cm a b) c ∣ a ∧ cm (cm a b) c ∣ b ∧ cm (cm a b) c ∣ c :=
  ⟨Int.dvd_trans (cm_dvd_left _ _) (cm_dvd_left _ _), Int.dvd_trans (cm_dvd_left _ _) (cm_dvd_right _ _), cm_dvd_right _ _⟩
theorem dv_dvd (a b c : Int) : dv a b c ∣ a ∧ dv a b c ∣ b ∧ dv a b c ∣ c := by
  obtain ⟨h1, h2, h3⟩ := cm3_dvd a b c
  unfold dv; split
  · rw [Int.zero_sub]; exact ⟨Int.neg_dvd.mpr h1, Int.neg_dvd.mpr h2, Int.neg_dvd.mpr h3⟩
  · exact ⟨h1, h2, h3⟩
theorem norm3_spec {a b : Int} (c : Int) (h : a ≠ 0 ∨ b ≠ 0) :
    a = dv a b c * (norm3 a b c).1 ∧ b = dv a b c * (norm3 a b c).2.1 ∧ c = dv a b c * (norm3 a b c).2.2 := by
  obtain ⟨⟨x, hx⟩, ⟨y, hy⟩, ⟨z, hz⟩⟩ := dv_dvd a b c
  have hd := dv_ne c h
  have e1 : a.fdiv (dv a b c) = x := (congrArg (fun t => Int.fdiv t (dv a b c)) hx).trans (fdiv_mul hd)
  have e2 : b.fdiv (dv a b c) = y := (congrArg (fun t => Int.fdiv t (dv a b c)) hy).trans (fdiv_mul hd)
  have e3 : c.fdiv (dv a b c) = z := (congrArg (fun t => Int.fdiv t (dv a b c)) hz).trans (fdiv_mul hd)
  refine ⟨?_, ?_, ?_⟩
  · show a = dv a b c * a.fdiv (dv a b c); rw [e1]; exact hx
  · show b = dv a b c * b.fdiv (dv a b c); rw [e2]; exact hy
  · show c = dv a b c * c.fdiv (dv a b c); rw [e3]; exact hz
theorem norm3_eq {a b c d x y z : Int} (hd : dv a b c = d) (h0 : d ≠ 0) (hx : a = d * x) (hy : b = d * y) (hz : c = d * z) : norm3 a b c = (x, y, z) := by
  unfold norm3
  rw [hd]
  have e1 : a.fdiv d = x := (congrArg (fun t => Int.fdiv t d) hx).trans (fdiv_mul h0)
  have e2 : b.fdiv d = y := (congrArg (fun t => Int.fdiv t d) hy).trans (fdiv_mul h0)
  have e3 : c.fdiv d = z := (congrArg (fun t => Int.fdiv t d) hz).trans (fdiv_mul h0)
  rw [e1, e2, e3]

theorem mul_low {k a b : Int} (hk : 0 < k) : Low (k * a) (k * b) ↔ Low a b := by
  unfold Low
  have h1 : k * a < 0 ↔ a < 0 := by
    constructor
    · intro h
      rcases Int.lt_or_le a 0 with q | q
      · exact q
      · have := Int.mul_nonneg (Int.le_of_lt hk) q; omega
    · intro h; exact Int.mul_neg_of_pos_of_neg hk h
  have h2 : k * a = 0 ↔ a = 0 := by
    constructor
    · intro h
      rcases Int.mul_eq_zero.mp h with q | q
      · omega
      · exact q
    · rintro rfl; simp
  have h3 : k * b < 0 ↔ b < 0 := by
    constructor
    · intro h
      rcases Int.lt_or_le b 0 with q | q
      · exact q
      · have := Int.mul_nonneg (Int.le_of_lt hk) q; omega
    · intro h; exact Int.mul_neg_of_pos_of_neg hk h
  rw [h1, h2, h3]
theorem neg_low {a b : Int} (h : a ≠ 0 ∨ b ≠ 0) : Low (-a) (-b) ↔ ¬ Low a b := by
  unfold Low; omega
theorem dv_mul_pos {k a b c : Int} (hk : 0 < k) : dv (k * a) (k * b) (k * c) = k * dv a b c := by
  have hn : ((k.natAbs : Nat) : Int) = k := by omega
  have e : cm (cm (k * a) (k * b)) (k * c) = k * cm (cm a b) c := by
    rw [cm_mul, hn, cm_mul, hn]
  unfold dv
  rw [e]
  by_cases h : Low a b
  · rw [if_pos h, if_pos ((mul_low hk).mpr h), Int.mul_sub, Int.mul_zero]
  · rw [if_neg h, if_neg (fun q => h ((mul_low hk).mp q))]
theorem dv_neg {a b : Int} (c : Int) (h : a ≠ 0 ∨ b ≠ 0) : dv (-a) (-b) (-c) = - dv a b c := by
  have e : cm (cm (-a) (-b)) (-c) = cm (cm a b) c := by
    unfold cm; simp [Int.gcd_neg, Int.neg_gcd]
  unfold dv
  rw [e]
  by_cases q : Low a b
  · rw [if_pos q, if_neg (fun z => (neg_low h).mp z q)]; omega
  · rw [if_neg q, if_pos ((neg_low h).mpr q)]; omega
theorem norm3_neg {a b : Int} (c : Int) (h : a ≠ 0 ∨ b ≠ 0) : norm3 (-a) (-b) (-c) = norm3 a b c := by
  obtain ⟨h1, h2, h3⟩ := norm3_spec c h
  have hd := dv_ne c h
  refine norm3_eq (x := (norm3 a b c).1) (y := (norm3 a b c).2.1) (z := (norm3 a b c).2.2) (dv_neg c h) (by omega) ?_ ?_ ?_
  · rw [Int.neg_mul, ← h1]
  · rw [Int.neg_mul, ← h2]
  · rw [Int.neg_mul, ← h3]
theorem norm3_pos {k a b : Int} (c : Int) (hk : 0 < k) (h : a ≠ 0 ∨ b ≠ 0) : norm3 (k * a) (k * b) (k * c) = norm3 a b c := by
  obtain ⟨h1, h2, h3⟩ := norm3_spec c h
  have hd := dv_ne c h
  refine norm3_eq (x := (norm3 a b c).1) (y := (norm3 a b c).2.1) (z := (norm3 a b c).2.2) (dv_mul_pos hk) (fun z => ?_) ?_ ?_ ?_
  · rcases Int.mul_eq_zero.mp z with q | q
    · omega
    · exact hd q
  · rw [Int.mul_assoc, ← h1]
  · rw [Int.mul_assoc, ← h2]
  · rw [Int.mul_assoc, ← h3]
theorem norm3_scale {k a b : Int} (c : Int) (hk : k ≠ 0) (h : a ≠ 0 ∨ b ≠ 0) : norm3 (k * a) (k * b) (k * c) = norm3 a b c := by
  rcases Int.lt_or_le 0 k with q | q
  · exact norm3_pos c q h
  · have q' : 0 < -k := by omega
    have h' : -a ≠ 0 ∨ -b ≠ 0 := by omega
    have e := norm3_pos (k := -k) (-c) q' h'
    rw [Int.neg_mul_neg, Int.neg_mul_neg, Int.neg_mul_neg] at e
    rw [e, norm3_neg c h]
/-- proportional triples -/
theorem norm3_prop {a b c a' b' c' k k' : Int} (h : a ≠ 0 ∨ b ≠ 0) (h' : a' ≠ 0 ∨ b' ≠ 0) (hk : k ≠ 0) (hk' : k' ≠ 0) (e1 : k * a' = k' * a) (e2 : k * b' = k' * b) (e3 : k * c' = k' * c) : norm3 a' b' c' = norm3 a b c := by
  rw [← norm3_scale c' hk h', e1, e2, e3, norm3_scale c hk' h]
/-- its first nonzero number is above nought; nothing above 1 divides all three -/
theorem norm3_ne {a b : Int} (c : Int) (h : a ≠ 0 ∨ b ≠ 0) : (norm3 a b c).1 ≠ 0 ∨ (norm3 a b c).2.1 ≠ 0 := by
  obtain ⟨h1, h2, h3⟩ := norm3_spec c h
  rcases h with h | h
  · left; intro z; rw [z] at h1; simp at h1; exact h h1
  · right; intro z; rw [z] at h2; simp at h2; exact h h2

/-! ### lines through points -/
def On (l : L3) (p : P2) : Prop := l.1 * p.1 + l.2.1 * p.2 = l.2.2
instance (l : L3) (p : P2) : Decidable (On l p) := by unfold On; infer_instance
def lineOf (p q : P2) : L3 := norm3 (q.2 - p.2) (p.1 - q.1) ((q.2 - p.2) * p.1 + (p.1 - q.1) * p.2)
theorem diff_ne {p q : P2} (h : p ≠ q) : q.2 - p.2 ≠ 0 ∨ p.1 - q.1 ≠ 0 := by
  obtain ⟨a, b⟩ := p
  obtain ⟨c, d⟩ := q
  by_cases h1 : a = c
  · left; intro z
    have : b = d := by dsimp only at z; omega
    exact h (by rw [h1, this])
  · right; dsimp only; omega
theorem on_norm3 {a b : Int} (c : Int) (h : a ≠ 0 ∨ b ≠ 0) (p : P2) : On (norm3 a b c) p ↔ a * p.1 + b * p.2 = c := by
  obtain ⟨h1, h2, h3⟩ := norm3_spec c h
  have hd := dv_ne c h
  unfold On
  generalize norm3 a b c = t at h1 h2 h3 ⊢
  generalize dv a b c = d at h1 h2 h3 hd
  constructor
  · intro e
    rw [h1, h2, h3, ← e, Int.mul_add, Int.mul_assoc, Int.mul_assoc]
  · intro e
    rw [h1, h2, h3, Int.mul_assoc, Int.mul_assoc, ← Int.mul_add] at e
    exact Int.eq_of_mul_eq_mul_left hd e
theorem on_lineOf {p q : P2} (h : p ≠ q) (r : P2) : On (lineOf p q) r ↔ (q.2 - p.2) * r.1 + (p.1 - q.1) * r.2 = (q.2 - p.2) * p.1 + (p.1 - q.1) * p.2 := on_norm3 _ (diff_ne h) r
theorem on_left {p q : P2} (h : p ≠ q) : On (lineOf p q) p := (on_lineOf h p).mpr rfl
theorem on_right {p q : P2} (h : p ≠ q) : On (lineOf p q) q := by
  refine (on_lineOf h q).mpr ?_
  obtain ⟨a, b⟩ := p
  obtain ⟨c, d⟩ := q
  dsimp only
  grind
theorem lineOf_comm {p q : P2} (h : p ≠ q) : lineOf q p = lineOf p q := by
  have e1 : p.2 - q.2 = -(q.2 - p.2) := by omega
  have e2 : q.1 - p.1 = -(p.1 - q.1) := by omega
  have e3 := (on_lineOf h q).mp (on_right h)
  unfold lineOf
  rw [e1, e2, Int.neg_mul, Int.neg_mul, ← Int.neg_add, e3]
  exact norm3_neg _ (diff_ne h)
/-- two unlike points of one line: they tell it -/
theorem lineOf_unique {r s p q : P2} (hrs : r ≠ s) (hpq : p ≠ q) (hp : On (lineOf r s) p) (hq : On (lineOf r s) q) : lineOf p q = lineOf r s := by
  have hp' := (on_lineOf hrs p).mp hp
  have hq' := (on_lineOf hrs q).mp hq
  have na := diff_ne hrs
  have nb := diff_ne hpq
  unfold lineOf
  generalize hc : (s.2 - r.2) * r.1 + (r.1 - s.1) * r.2 = c at hp' hq' ⊢
  generalize s.2 - r.2 = a at na hp' hq' ⊢
  generalize r.1 - s.1 = b at na hp' hq' ⊢
  obtain ⟨px, py⟩ := p
  obtain ⟨qx, qy⟩ := q
  dsimp only at *
  -- a * (qx - px) + b * (qy - py) = 0
  have z : a * (px - qx) = b * (qy - py) := by
    rw [Int.mul_sub, Int.mul_sub]; omega
  by_cases h0 : a = 0
  · subst h0
    have hb : b ≠ 0 := by omega
    have z2 : b * (qy - py) = 0 := by rw [← z]; simp
    have z3 : qy - py = 0 := by
      rcases Int.mul_eq_zero.mp z2 with q | q
      · exact absurd q hb
      · exact q
    have nx : px - qx ≠ 0 := by omega
    refine norm3_prop (k := b) (k' := px - qx) na nb hb nx ?_ ?_ ?_
    · rw [z3]; simp
    · exact Int.mul_comm _ _
    · rw [z3, ← hp']; simp only [Int.zero_mul, Int.zero_add]; rw [← Int.mul_assoc, ← Int.mul_assoc, Int.mul_comm b]
  · have ny : qy - py ≠ 0 := by
      intro q
      rw [q, Int.mul_zero] at z
      rcases Int.mul_eq_zero.mp z with q2 | q2
      · exact h0 q2
      · omega
    refine norm3_prop (k := a) (k' := qy - py) na nb h0 ny ?_ ?_ ?_
    · exact Int.mul_comm _ _
    · rw [z, Int.mul_comm]
    · rw [← hp', Int.mul_add, Int.mul_add]
      have e1 : a * ((qy - py) * px) = (qy - py) * (a * px) := Int.mul_left_comm _ _ _
      have e2 : a * ((px - qx) * py) = (qy - py) * (b * py) := by
        rw [← Int.mul_assoc, z, Int.mul_comm b, Int.mul_assoc]
      rw [e1, e2]
/-- as the law tells it: the signs first -/
def lawLine (p q : P2) : L3 :=
  let a := q.2 - p.2
  let b := p.1 - q.1
  let a' := if Low a b then 0 - a else a
  let b' := if Low a b then 0 - b else b
  let c' := a' * p.1 + b' * p.2
  let w := cm (cm a' b') c'
  (a'.fdiv w, b'.fdiv w, c'.fdiv w)
theorem lawLine_eq {p q : P2} (h : p ≠ q) : lawLine p q = lineOf p q := by
  have na := diff_ne h
  unfold lawLine lineOf
  generalize q.2 - p.2 = a at na ⊢
  generalize p.1 - q.1 = b at na ⊢
  dsimp only
  by_cases q : Low a b
  · rw [if_pos q, if_pos q, Int.zero_sub, Int.zero_sub]
    have e : -a * p.1 + -b * p.2 = -(a * p.1 + b * p.2) := by rw [Int.neg_mul, Int.neg_mul, Int.neg_add]
    rw [e, ← norm3_neg _ na]
    unfold norm3 dv
    rw [if_neg (fun z => (neg_low na).mp z q)]
  · rw [if_neg q, if_neg q]
    unfold norm3 dv
    rw [if_neg q]

/-! ### fractions -/
def frac (t b : Int) : Int × Int := let d := if b < 0 then 0 - cm t b else cm t b; (t.fdiv d, b.fdiv d)
def low (t b : Int) : Int × Int := (t.fdiv (cm t b), b.fdiv (cm t b))
theorem frac_low {t b : Int} (h : 0 ≤ b) : frac t b = low t b := by
  unfold frac low
  dsimp only
  rw [if_neg (by omega)]
theorem frac_spec (t : Int) {b : Int} (h : b ≠ 0) : ∃ d, d ≠ 0 ∧ t = d * (frac t b).1 ∧ b = d * (frac t b).2 ∧ 0 < (frac t b).2 ∧ cm (frac t b).1 (frac t b).2 = 1 := by
  have hp : 0 < cm t b := cm_pos (.inr h)
  obtain ⟨d, hd, h0, ht, hb, hs⟩ : ∃ d, d = (if b < 0 then 0 - cm t b else cm t b) ∧ d ≠ 0 ∧ d ∣ t ∧ d ∣ b ∧ (0 < d ↔ 0 < b) := by
    refine ⟨_, rfl, ?_⟩
    by_cases q : b < 0
    · rw [if_pos q, Int.zero_sub]
      exact ⟨by omega, Int.neg_dvd.mpr (cm_dvd_left _ _), Int.neg_dvd.mpr (cm_dvd_right _ _), by omega⟩
    · rw [if_neg q]
      exact ⟨by omega, cm_dvd_left _ _, cm_dvd_right _ _, by omega⟩
  have hn : d.natAbs = Int.gcd t b := by
    rw [hd]; have := cm_natAbs t b
    split
    · rw [Int.zero_sub, Int.natAbs_neg]; exact this
    · exact this
  obtain ⟨x, hx⟩ := ht
  obtain ⟨y, hy⟩ := hb
  have ef : frac t b = (x, y) := by
    unfold frac
    dsimp only
    rw [← hd]
    have e1 : t.fdiv d = x := (congrArg (fun t => Int.fdiv t d) hx).trans (fdiv_mul h0)
    have e2 : b.fdiv d = y := (congrArg (fun t => Int.fdiv t d) hy).trans (fdiv_mul h0)
    rw [e1, e2]
  rw [ef]
  refine ⟨d, h0, hx, hy, ?_, ?_⟩
  · show 0 < y
    rcases Int.lt_or_le 0 y with q | q
    · exact q
    · exfalso
      rcases Int.lt_or_le 0 d with q2 | q2
      · have h1 := hs.mp q2
        have := Int.mul_nonneg (Int.le_of_lt q2) (show 0 ≤ -y by omega)
        rw [Int.mul_neg] at this
        omega
      · have h1 : ¬ 0 < b := fun z => by have := hs.mpr z; omega
        have := Int.mul_nonneg (show 0 ≤ -d by omega) (show 0 ≤ -y by omega)
        rw [Int.neg_mul_neg] at this
        omega
  · show cm x y = 1
    have e : cm t b = d.natAbs * cm x y := by
      have := cm_mul d x y
      rw [← hx, ← hy] at this
      exact this
    have e2 : ((d.natAbs : Nat) : Int) = cm t b := by rw [hn]; rfl
    rw [e2] at e
    have : cm t b * 1 = cm t b * cm x y := by rw [Int.mul_one]; exact e
    exact (Int.eq_of_mul_eq_mul_left (by omega) this).symm
end Tw
namespace Tw

/-! ### the nearest point of a line: Kelly's step -/
def much (l : L3) (p : P2) : Int := l.1 * p.1 + l.2.1 * p.2 - l.2.2
def nn (l : L3) : Int := l.1 * l.1 + l.2.1 * l.2.1
def tau (l : L3) (p q : P2) : Int := l.1 * (q.2 - p.2) - l.2.1 * (q.1 - p.1)
theorem on_much {l : L3} {p : P2} : On l p ↔ much l p = 0 := by unfold On much; omega
theorem sq_pos {a : Int} (h : a ≠ 0) : 0 < a * a := by
  rcases Int.lt_or_le a 0 with q | q
  · have := Int.mul_pos (show 0 < -a by omega) (show 0 < -a by omega)
    rwa [Int.neg_mul_neg] at this
  · exact Int.mul_pos (by omega) (by omega)
theorem sq_nonneg (a : Int) : 0 ≤ a * a := by
  by_cases h : a = 0
  · rw [h]; decide
  · exact Int.le_of_lt (sq_pos h)
theorem nn_pos {l : L3} (h : l.1 ≠ 0 ∨ l.2.1 ≠ 0) : 0 < nn l := by
  unfold nn
  have h1 := sq_nonneg l.1
  have h2 := sq_nonneg l.2.1
  rcases h with h | h
  · have := sq_pos h; omega
  · have := sq_pos h; omega
theorem id1 (a b u v s t : Int) : (a * a + b * b) * (u * t - v * s) = (a * u + b * v) * (a * t - b * s) - (a * s + b * t) * (a * v - b * u) := by grind
theorem id2 (a b u v : Int) : (a * a + b * b) * (u * u + v * v) = (a * u + b * v) * (a * u + b * v) + (a * v - b * u) * (a * v - b * u) := by grind
theorem id3 (a b u v s t : Int) : (a * s + b * t) * u = b * (u * t - v * s) + s * (a * u + b * v) := by grind
theorem id4 (a b u v s t : Int) : (a * s + b * t) * v = - (a * (u * t - v * s)) + t * (a * u + b * v) := by grind
theorem id5 {M u v a b c : Int} (h1 : M * u = b * c) (h2 : M * v = -(a * c)) : M * M * (u * u + v * v) = (a * a + b * b) * (c * c) := by
  have e : M * M * (u * u + v * v) = (M * u) * (M * u) + (M * v) * (M * v) := by grind
  rw [e, h1, h2]; grind
theorem id6 (M n w : Int) : M * M * n * (n * w) = (M * M * w) * (n * n) := by grind
theorem id7 (m c n : Int) : m * (c * c) * (n * n) = m * ((n * c) * (n * c)) := by grind
theorem id8 (D m n w : Int) : D * D * m * (n * w) = m * (D * D * (n * w)) := by grind
theorem id9 (D k : Int) : D * k * (D * k) = D * D * (k * k) := by grind
/-- all seen from p -/
theorem kelly_0 {a b a' b' u v s t D : Int} (hr : a * u + b * v = -D) (hq : a * s + b * t = -D) (hr' : a' * u + b' * v = 0) (hn : 0 < a * a + b * b) (hm : 0 < a' * a' + b' * b') (hD : D ≠ 0)
    (ht : ((a * v - b * u) - (a * t - b * s)) * ((a * v - b * u) - (a * t - b * s)) ≤ (a * v - b * u) * (a * v - b * u)) :
    (a' * s + b' * t) * (a' * s + b' * t) * (a * a + b * b) < D * D * (a' * a' + b' * b') := by
  have i1 := id1 a b u v s t
  have i2 := id2 a b u v
  have i3 := id3 a' b' u v s t
  have i4 := id4 a' b' u v s t
  rw [hr, hq] at i1
  rw [hr, Int.neg_mul_neg] at i2
  rw [hr', Int.mul_zero, Int.add_zero] at i3 i4
  have i5 := id5 i3 i4
  clear i3 i4 hr hq hr'
  generalize a' * s + b' * t = M at i5 ⊢
  generalize a' * a' + b' * b' = m at i5 hm ⊢
  generalize a * v - b * u = tr at i1 i2 ht
  generalize a * t - b * s = tq at i1 ht
  generalize u * t - v * s = cr at i1 i5
  generalize a * a + b * b = n at i1 i2 hn ⊢
  generalize u * u + v * v = w at i2 i5
  have i1' : n * cr = D * (tr - tq) := by
    rw [i1, Int.mul_sub, Int.neg_mul, Int.neg_mul]; omega
  clear i1
  have hDD := sq_pos hD
  have hN : 0 < n * w := by
    rw [i2]
    have := sq_nonneg tr
    omega
  have k1 : M * M * n * (n * w) = m * (D * D * ((tr - tq) * (tr - tq))) := by
    rw [id6, i5, id7, i1', id9]
  have k2 : D * D * m * (n * w) = m * (D * D * (D * D + tr * tr)) := by rw [id8, i2]
  have k3 : m * (D * D * ((tr - tq) * (tr - tq))) < m * (D * D * (D * D + tr * tr)) := by
    refine Int.mul_lt_mul_of_pos_left ?_ hm
    refine Int.mul_lt_mul_of_pos_left ?_ hDD
    omega
  rw [← k1, ← k2] at k3
  exact Int.lt_of_mul_lt_mul_right k3 (Int.le_of_lt hN)
theorem kelly_alg {a b c a' b' c' px py qx qy rx ry : Int} (hq : a * qx + b * qy = c) (hr : a * rx + b * ry = c) (hp' : a' * px + b' * py = c') (hr' : a' * rx + b' * ry = c')
    (hn : 0 < a * a + b * b) (hm : 0 < a' * a' + b' * b') (hD : a * px + b * py - c ≠ 0)
    (ht : ((a * (ry - py) - b * (rx - px)) - (a * (qy - py) - b * (qx - px))) * ((a * (ry - py) - b * (rx - px)) - (a * (qy - py) - b * (qx - px))) ≤ (a * (ry - py) - b * (rx - px)) * (a * (ry - py) - b * (rx - px))) :
    (a' * qx + b' * qy - c') * (a' * qx + b' * qy - c') * (a * a + b * b) < (a * px + b * py - c) * (a * px + b * py - c) * (a' * a' + b' * b') := by
  have e : a' * qx + b' * qy - c' = a' * (qx - px) + b' * (qy - py) := by rw [Int.mul_sub, Int.mul_sub]; omega
  rw [e]
  refine kelly_0 (u := rx - px) (v := ry - py) ?_ ?_ ?_ hn hm hD ht
  · rw [Int.mul_sub, Int.mul_sub]; omega
  · rw [Int.mul_sub, Int.mul_sub]; omega
  · rw [Int.mul_sub, Int.mul_sub]; omega

/-- p not on l; q and r on l, q no further from the foot than r, on its side: q is nearer to the line through r and p -/
theorem kelly {l m : L3} {p q r : P2} (hq : On l q) (hr : On l r) (hl : l.1 ≠ 0 ∨ l.2.1 ≠ 0) (hm : m.1 ≠ 0 ∨ m.2.1 ≠ 0) (hp : ¬ On l p) (mp : On m p) (mr : On m r)
    (ht : (tau l p r - tau l p q) * (tau l p r - tau l p q) ≤ tau l p r * tau l p r) : much m q * much m q * nn l < much l p * much l p * nn m :=
  kelly_alg hq hr mp mr (nn_pos hl) (nn_pos hm) (fun z => hp (by unfold On; omega)) ht

theorem tau_inj {l : L3} {p q r : P2} (hl : l.1 ≠ 0 ∨ l.2.1 ≠ 0) (hq : On l q) (hr : On l r) (h : tau l p q = tau l p r) : q = r := by
  obtain ⟨a, b, c⟩ := l
  obtain ⟨qx, qy⟩ := q
  obtain ⟨rx, ry⟩ := r
  unfold On at hq hr
  unfold tau at h
  dsimp only at *
  have hn : 0 < a * a + b * b := nn_pos (l := (a, b, c)) hl
  have k1 : a * (qx - rx) + b * (qy - ry) = 0 := by rw [Int.mul_sub, Int.mul_sub]; omega
  have k2 : a * (qy - ry) - b * (qx - rx) = 0 := by
    simp only [Int.mul_sub] at h ⊢; omega
  have h1 : (a * a + b * b) * (qx - rx) = 0 := by
    have : (a * a + b * b) * (qx - rx) = a * (a * (qx - rx) + b * (qy - ry)) - b * (a * (qy - ry) - b * (qx - rx)) := by generalize qx - rx = x; generalize qy - ry = y; grind
    rw [this, k1, k2]; simp
  have h2 : (a * a + b * b) * (qy - ry) = 0 := by
    have : (a * a + b * b) * (qy - ry) = b * (a * (qx - rx) + b * (qy - ry)) + a * (a * (qy - ry) - b * (qx - rx)) := by generalize qx - rx = x; generalize qy - ry = y; grind
    rw [this, k1, k2]; simp
  have z : ∀ x : Int, (a * a + b * b) * x = 0 → x = 0 := fun x hx => by
    rcases Int.mul_eq_zero.mp hx with q | q
    · omega
    · exact q
  have e1 := z _ h1
  have e2 := z _ h2
  have f1 : qx = rx := by omega
  have f2 : qy = ry := by omega
  rw [f1, f2]

/-- two ints of one sign: the lesser of the two beside the greater -/
theorem side_sq {x y : Int} (h : (0 ≤ x ∧ x ≤ y) ∨ (y ≤ x ∧ x ≤ 0)) : (y - x) * (y - x) ≤ y * y := by
  rcases h with ⟨h1, h2⟩ | ⟨h1, h2⟩
  · exact Int.mul_le_mul (by omega) (by omega) (by omega) (by omega)
  · have := Int.mul_le_mul (a := x - y) (b := x - y) (c := -y) (d := -y) (by omega) (by omega) (by omega) (by omega)
    rw [Int.neg_mul_neg] at this
    have e : (x - y) * (x - y) = (y - x) * (y - x) := by grind
    rw [← e]; exact this

theorem lineOf_ne {p q : P2} (h : p ≠ q) : (lineOf p q).1 ≠ 0 ∨ (lineOf p q).2.1 ≠ 0 := norm3_ne _ (diff_ne h)

/-- two points of a line, the one beside the other seen from the foot of p: a nearer pair -/
theorem kelly_pair {r s p q t : P2} (hrs : r ≠ s) (hp : ¬ On (lineOf r s) p) (hq : On (lineOf r s) q) (ht : On (lineOf r s) t) (hqt : q ≠ t)
    (h : (0 ≤ tau (lineOf r s) p q ∧ tau (lineOf r s) p q ≤ tau (lineOf r s) p t) ∨ (tau (lineOf r s) p t ≤ tau (lineOf r s) p q ∧ tau (lineOf r s) p q ≤ 0)) :
    t ≠ p ∧ ¬ On (lineOf t p) q ∧ much (lineOf t p) q * much (lineOf t p) q * nn (lineOf r s) < much (lineOf r s) p * much (lineOf r s) p * nn (lineOf t p) := by
  have htp : t ≠ p := fun z => hp (z ▸ ht)
  refine ⟨htp, fun z => ?_, kelly hq ht (lineOf_ne hrs) (lineOf_ne htp) hp (on_right htp) (on_left htp) (side_sq h)⟩
  -- q and t on both lines
  have e1 := lineOf_unique hrs hqt hq ht
  have e2 := lineOf_unique htp hqt z (on_left htp)
  exact hp (by rw [← e1, e2]; exact on_right htp)

/-- a nearest pair's line has at most two of the points -/
theorem kelly_two {S : List P2} {r s p : P2} (hrs : r ≠ s) (hpS : p ∈ S) (hp : ¬ On (lineOf r s) p)
    (least : ∀ t ∈ S, ∀ u ∈ S, ∀ q ∈ S, t ≠ u → ¬ On (lineOf t u) q → ¬ much (lineOf t u) q * much (lineOf t u) q * nn (lineOf r s) < much (lineOf r s) p * much (lineOf r s) p * nn (lineOf t u))
    {x y z : P2} (hx : x ∈ S) (hy : y ∈ S) (hz : z ∈ S) (ox : On (lineOf r s) x) (oy : On (lineOf r s) y) (oz : On (lineOf r s) z) : x = y ∨ y = z ∨ x = z := by
  by_cases h1 : x = y
  · exact .inl h1
  by_cases h2 : y = z
  · exact .inr (.inl h2)
  by_cases h3 : x = z
  · exact .inr (.inr h3)
  exfalso
  have pair : ∀ {q t : P2}, q ∈ S → t ∈ S → On (lineOf r s) q → On (lineOf r s) t → q ≠ t →
      ¬ ((0 ≤ tau (lineOf r s) p q ∧ tau (lineOf r s) p q ≤ tau (lineOf r s) p t) ∨ (tau (lineOf r s) p t ≤ tau (lineOf r s) p q ∧ tau (lineOf r s) p q ≤ 0)) := by
    intro q t hq ht oq ot hqt h
    obtain ⟨a, b, c⟩ := kelly_pair hrs hp oq ot hqt h
    exact least t ht p hpS q hq a b c
  have a1 := pair hx hy ox oy h1
  have a2 := pair hy hx oy ox (Ne.symm h1)
  have a3 := pair hy hz oy oz h2
  have a4 := pair hz hy oz oy (Ne.symm h2)
  have a5 := pair hx hz ox oz h3
  have a6 := pair hz hx oz ox (Ne.symm h3)
  omega

/-! ### the least of finitely many fractions -/
theorem least_frac {α : Type} (N D : α → Int) : ∀ (l : List α), (∀ x ∈ l, 0 < D x) → l ≠ [] → ∃ x ∈ l, ∀ y ∈ l, ¬ N y * D x < N x * D y
  | [], _, h => absurd rfl h
  | [a], _, _ => ⟨a, List.mem_cons_self, fun y hy => by
      have e : y = a := by simpa using hy
      subst e; omega⟩
  | a :: b :: l, hd, _ => by
    obtain ⟨x, hx, hl⟩ := least_frac N D (b :: l) (fun y hy => hd y (List.mem_cons_of_mem _ hy)) (by simp)
    have da := hd a List.mem_cons_self
    have dx := hd x (List.mem_cons_of_mem _ hx)
    by_cases h : N a * D x < N x * D a
    · refine ⟨a, List.mem_cons_self, fun y hy => ?_⟩
      rcases List.mem_cons.mp hy with e | hy
      · subst e; omega
      · have dy := hd y (List.mem_cons_of_mem _ hy)
        intro c
        have h2 := hl y hy
        -- N y * D a < N a * D y, N a * D x < N x * D a, so N y * D x < N x * D y
        have s1 : N y * D a * D x < N a * D y * D x := Int.mul_lt_mul_of_pos_right c dx
        have s2 : N a * D x * D y < N x * D a * D y := Int.mul_lt_mul_of_pos_right h dy
        have s3 : (N y * D x) * D a < (N x * D y) * D a := by
          have e1 : N y * D a * D x = N y * D x * D a := by grind
          have e2 : N a * D y * D x = N a * D x * D y := by grind
          have e3 : N x * D a * D y = N x * D y * D a := by grind
          omega
        exact h2 (Int.lt_of_mul_lt_mul_right s3 (Int.le_of_lt da))
    · refine ⟨x, List.mem_cons_of_mem _ hx, fun y hy => ?_⟩
      rcases List.mem_cons.mp hy with e | hy
      · subst e; exact h
      · exact hl y hy

/-! ### points that do not lie on one line: a line with just two -/
def Col (S : List P2) : Prop := ∀ p ∈ S, ∀ q ∈ S, ∀ r ∈ S, p ≠ q → On (lineOf p q) r
theorem sylvester {S : List P2} (h : ¬ Col S) : ∃ p ∈ S, ∃ q ∈ S, p ≠ q ∧ ∀ x ∈ S, On (lineOf p q) x → x = p ∨ x = q := by
  -- all triples
  have hne : (((S.flatMap fun p => S.flatMap fun q => S.map fun r => (p, q, r)).filter fun t => decide (t.1 ≠ t.2.1 ∧ ¬ On (lineOf t.1 t.2.1) t.2.2))) ≠ [] := by
    intro z
    apply h
    intro p hp q hq r hr hpq
    by_cases o : On (lineOf p q) r
    · exact o
    · exfalso
      have : (p, q, r) ∈ (((S.flatMap fun p => S.flatMap fun q => S.map fun r => (p, q, r)).filter fun t => decide (t.1 ≠ t.2.1 ∧ ¬ On (lineOf t.1 t.2.1) t.2.2))) := by
        refine List.mem_filter.mpr ⟨?_, decide_eq_true ⟨hpq, o⟩⟩
        exact List.mem_flatMap.mpr ⟨p, hp, List.mem_flatMap.mpr ⟨q, hq, List.mem_map.mpr ⟨r, hr, rfl⟩⟩⟩
      rw [z] at this
      cases this
  obtain ⟨⟨r, s, p⟩, ht, least⟩ := least_frac (fun t => much (lineOf t.1 t.2.1) t.2.2 * much (lineOf t.1 t.2.1) t.2.2) (fun t => nn (lineOf t.1 t.2.1)) _ (fun t ht => nn_pos (lineOf_ne (of_decide_eq_true (List.mem_filter.mp ht).2).1)) hne
  obtain ⟨h1, h2⟩ := List.mem_filter.mp ht
  obtain ⟨hrs, hp⟩ := of_decide_eq_true h2
  obtain ⟨r', hr', h1⟩ := List.mem_flatMap.mp h1
  obtain ⟨s', hs', h1⟩ := List.mem_flatMap.mp h1
  obtain ⟨p', hp', e⟩ := List.mem_map.mp h1
  injection e with e1 e2
  injection e2 with e2 e3
  subst e1 e2 e3
  refine ⟨r', hr', s', hs', hrs, fun x hx ox => ?_⟩
  have := kelly_two (S := S) hrs hp' hp (fun t ht u hu q hq htu o => least (t, u, q) (List.mem_filter.mpr ⟨List.mem_flatMap.mpr ⟨t, ht, List.mem_flatMap.mpr ⟨u, hu, List.mem_map.mpr ⟨q, hq, rfl⟩⟩⟩, decide_eq_true ⟨htu, o⟩⟩)) hx hr' hs' ox (on_left hrs) (on_right hrs)
  rcases this with e | e | e
  · exact .inl e
  · exact absurd e hrs
  · exact .inr e

/-! ### as many lines as points -/
/-- L: all lines of S, each once -/
structure LinesFor (S : List P2) (L : List L3) : Prop where
  nd : L.Nodup
  mem : ∀ l, l ∈ L ↔ ∃ p ∈ S, ∃ q ∈ S, p ≠ q ∧ l = lineOf p q
theorem nodup_sub_length {α : Type} [DecidableEq α] : ∀ {A B : List α}, A.Nodup → (∀ x ∈ A, x ∈ B) → A.length ≤ B.length
  | [], B, _, _ => Nat.zero_le _
  | a :: A, B, hn, hs => by
    have ha : a ∈ B := hs a List.mem_cons_self
    have hn' := List.nodup_cons.mp hn
    have := nodup_sub_length (A := A) (B := B.erase a) hn'.2 (fun x hx => by
      have hxa : x ≠ a := fun e => hn'.1 (e ▸ hx)
      exact (List.mem_erase_of_ne hxa).mpr (hs x (List.mem_cons_of_mem _ hx)))
    rw [List.length_erase_of_mem ha] at this
    have hpos : 0 < B.length := List.length_pos_of_mem ha
    simp only [List.length_cons]
    omega
/-- one point p beside a line m, the others S' on it: the lines through p -/
theorem fan_nodup {S' : List P2} {p : P2} {m : L3} (hn : S'.Nodup) (hm : ∀ x ∈ S', ∀ y ∈ S', x ≠ y → lineOf x y = m) (hp : ¬ On m p) (hpS : p ∉ S') : (S'.map (lineOf p)).Nodup := by
  unfold List.Nodup
  rw [List.pairwise_map]
  refine List.Pairwise.imp_of_mem ?_ hn
  intro x y hx hy hxy e
  have px : p ≠ x := fun z => hpS (z ▸ hx)
  have py : p ≠ y := fun z => hpS (z ▸ hy)
  have := lineOf_unique px hxy (on_right px) (by rw [e]; exact on_right py)
  rw [hm x hx y hy hxy] at this
  exact hp (by rw [this]; exact on_left px)
theorem as_many : ∀ (n : Nat) (S : List P2) (L : List L3), S.length = n → S.Nodup → LinesFor S L → ¬ Col S → n ≤ L.length := by
  intro n
  induction n with
  | zero => intro S L _ _ _ _; exact Nat.zero_le _
  | succ n ih =>
    intro S L hlen hS hL hc
    obtain ⟨p, hp, q, hq, hpq, two⟩ := sylvester hc
    have hlen' : (S.erase p).length = n := by rw [List.length_erase_of_mem hp]; omega
    have hS' : (S.erase p).Nodup := hS.erase p
    have hpS' : p ∉ S.erase p := fun z => (List.Nodup.mem_erase_iff hS |>.mp z).1 rfl
    have sub : ∀ x ∈ S.erase p, x ∈ S := fun x hx => (List.Nodup.mem_erase_iff hS |>.mp hx).2
    have into : ∀ x ∈ S, x ≠ p → x ∈ S.erase p := fun x hx hne => List.Nodup.mem_erase_iff hS |>.mpr ⟨hne, hx⟩
    have hqS' : q ∈ S.erase p := into q hq (Ne.symm hpq)
    by_cases hc' : Col (S.erase p)
    · -- another point r beside q
      have : ∃ r ∈ S.erase p, r ≠ q := by
        apply Classical.byContradiction
        intro hno
        apply hc
        have all : ∀ x ∈ S, x = p ∨ x = q := fun x hx => by
          by_cases e : x = p
          · exact .inl e
          · by_cases e2 : x = q
            · exact .inr e2
            · exact absurd ⟨x, into x hx e, e2⟩ hno
        intro a ha b hb c hcx hab
        rcases all a ha with rfl | rfl
        · rcases all b hb with rfl | rfl
          · exact absurd rfl hab
          · rcases all c hcx with rfl | rfl
            · exact on_left hab
            · exact on_right hab
        · rcases all b hb with rfl | rfl
          · rcases all c hcx with rfl | rfl
            · exact on_right hab
            · exact on_left hab
          · exact absurd rfl hab
      obtain ⟨r, hr, hrq⟩ := this
      have hm : ∀ x ∈ S.erase p, ∀ y ∈ S.erase p, x ≠ y → lineOf x y = lineOf r q := fun x hx y hy hxy =>
        lineOf_unique hrq hxy (hc' r hr q hqS' x hx hrq) (hc' r hr q hqS' y hy hrq)
      have hpm : ¬ On (lineOf r q) p := by
        intro o
        have hqr := lineOf_unique hrq (p := p) (q := q) hpq o (on_right hrq)
        have := two r (sub r hr) (by rw [hqr]; exact on_left hrq)
        rcases this with e | e
        · exact hpS' (e ▸ hr)
        · exact hrq e
      have nf := fan_nodup hS' hm hpm hpS'
      have nd : (lineOf r q :: (S.erase p).map (lineOf p)).Nodup := by
        refine List.nodup_cons.mpr ⟨fun z => ?_, nf⟩
        obtain ⟨x, hx, e⟩ := List.mem_map.mp z
        have px : p ≠ x := fun z => hpS' (z ▸ hx)
        exact hpm (by rw [← e]; exact on_left px)
      have := nodup_sub_length nd (B := L) (fun l hl => by
        rcases List.mem_cons.mp hl with e | hl
        · exact (hL.mem l).mpr ⟨r, sub r hr, q, hq, hrq, e⟩
        · obtain ⟨x, hx, e⟩ := List.mem_map.mp hl
          exact (hL.mem l).mpr ⟨p, hp, x, sub x hx, fun z => hpS' (z ▸ hx), e.symm⟩)
      simp only [List.length_cons, List.length_map, hlen'] at this
      exact this
    · classical
      have hL' : LinesFor (S.erase p) (L.filter fun l => decide (∃ a ∈ S.erase p, ∃ b ∈ S.erase p, a ≠ b ∧ l = lineOf a b)) := by
        refine ⟨hL.nd.filter _, fun l => ?_⟩
        rw [List.mem_filter]
        constructor
        · rintro ⟨_, h2⟩; exact of_decide_eq_true h2
        · rintro ⟨a, ha, b, hb, hab, e⟩
          exact ⟨(hL.mem l).mpr ⟨a, sub a ha, b, sub b hb, hab, e⟩, decide_eq_true ⟨a, ha, b, hb, hab, e⟩⟩
      have h1 := ih _ _ hlen' hS' hL' hc'
      have hin : lineOf p q ∈ L := (hL.mem _).mpr ⟨p, hp, q, hq, hpq, rfl⟩
      have hout : lineOf p q ∉ L.filter fun l => decide (∃ a ∈ S.erase p, ∃ b ∈ S.erase p, a ≠ b ∧ l = lineOf a b) := by
        intro z
        obtain ⟨a, ha, b, hb, hab, e⟩ := (hL'.mem _).mp z
        have oa := two a (sub a ha) (by rw [e]; exact on_left hab)
        have ob := two b (sub b hb) (by rw [e]; exact on_right hab)
        rcases oa with e1 | e1
        · exact hpS' (e1 ▸ ha)
        · rcases ob with e2 | e2
          · exact hpS' (e2 ▸ hb)
          · exact hab (e1.trans e2.symm)
      have nd : (lineOf p q :: L.filter fun l => decide (∃ a ∈ S.erase p, ∃ b ∈ S.erase p, a ≠ b ∧ l = lineOf a b)).Nodup := List.nodup_cons.mpr ⟨hout, hL'.nd⟩
      have := nodup_sub_length nd (B := L) (fun l hl => by
        rcases List.mem_cons.mp hl with e | hl
        · exact e ▸ hin
        · exact (List.mem_filter.mp hl).1)
      simp only [List.length_cons] at this
      omega
/-- just one point beside a line: just as many -/
theorem just_as_many {S : List P2} {L : List L3} {p : P2} {m : L3} (hS : S.Nodup) (hL : LinesFor S L) (hp : p ∈ S) (hm : m ∈ L) (hpm : ¬ On m p) (hall : ∀ x ∈ S, x ≠ p → On m x) : L.length = S.length := by
  have hlen' : (S.erase p).length + 1 = S.length := by
    rw [List.length_erase_of_mem hp]
    have := List.length_pos_of_mem hp
    omega
  have hS' : (S.erase p).Nodup := hS.erase p
  have hpS' : p ∉ S.erase p := fun z => (List.Nodup.mem_erase_iff hS |>.mp z).1 rfl
  have sub : ∀ x ∈ S.erase p, x ∈ S := fun x hx => (List.Nodup.mem_erase_iff hS |>.mp hx).2
  have into : ∀ x ∈ S, x ≠ p → x ∈ S.erase p := fun x hx hne => List.Nodup.mem_erase_iff hS |>.mpr ⟨hne, hx⟩
  obtain ⟨r, hr, s, hs, hrs, em⟩ := (hL.mem m).mp hm
  have hmm : ∀ x ∈ S.erase p, ∀ y ∈ S.erase p, x ≠ y → lineOf x y = m := fun x hx y hy hxy => by
    rw [em]
    refine lineOf_unique hrs hxy ?_ ?_
    · rw [← em]; exact hall x (sub x hx) (fun z => hpS' (z ▸ hx))
    · rw [← em]; exact hall y (sub y hy) (fun z => hpS' (z ▸ hy))
  have nf := fan_nodup hS' hmm hpm hpS'
  have nd : (m :: (S.erase p).map (lineOf p)).Nodup := by
    refine List.nodup_cons.mpr ⟨fun z => ?_, nf⟩
    obtain ⟨x, hx, e⟩ := List.mem_map.mp z
    have px : p ≠ x := fun z => hpS' (z ▸ hx)
    exact hpm (by rw [← e]; exact on_left px)
  have h1 := nodup_sub_length nd (B := L) (fun l hl => by
    rcases List.mem_cons.mp hl with e | hl
    · exact e ▸ hm
    · obtain ⟨x, hx, e⟩ := List.mem_map.mp hl
      exact (hL.mem l).mpr ⟨p, hp, x, sub x hx, fun z => hpS' (z ▸ hx), e.symm⟩)
  have h2 := nodup_sub_length hL.nd (B := m :: (S.erase p).map (lineOf p)) (fun l hl => by
    obtain ⟨a, ha, b, hb, hab, e⟩ := (hL.mem l).mp hl
    by_cases ea : a = p
    · subst ea
      exact List.mem_cons_of_mem _ (List.mem_map.mpr ⟨b, into b hb (Ne.symm hab), e.symm⟩)
    · by_cases eb : b = p
      · subst eb
        refine List.mem_cons_of_mem _ (List.mem_map.mpr ⟨a, into a ha ea, ?_⟩)
        rw [e]; exact lineOf_comm hab
      · rw [e, hmm a (into a ha ea) b (into b hb eb) hab]
        exact List.mem_cons_self)
  simp only [List.length_cons, List.length_map] at h1 h2
  omega
end Tw
namespace Tw
/-! ### where two lines cross -/
def crs (l m : L3) : Int := l.1 * m.2.1 - m.1 * l.2.1
def crX (l m : L3) : P2 := frac (l.2.2 * m.2.1 - m.2.2 * l.2.1) (crs l m)
def crY (l m : L3) : P2 := frac (l.1 * m.2.2 - m.1 * l.2.2) (crs l m)
theorem cross_alg (a b c a' b' c' : Int) : a * (c * b' - c' * b) + b * (a * c' - a' * c) = c * (a * b' - a' * b) ∧ a' * (c * b' - c' * b) + b' * (a * c' - a' * c) = c' * (a * b' - a' * b) := by
  constructor <;> grind
theorem thr_alg {a b c X Y u d e x0 x1 y0 y1 : Int} (h : a * X + b * Y = c * u) (hX : X = d * x0) (hu : u = d * x1) (hY : Y = e * y0) (hu' : u = e * y1) : (d * e) * (a * x0 * y1 + b * y0 * x1) = (d * e) * (c * x1 * y1) := by
  have h1 : (d * e) * (a * x0 * y1 + b * y0 * x1) = a * (d * x0) * (e * y1) + b * (e * y0) * (d * x1) := by grind
  have h2 : (d * e) * (c * x1 * y1) = c * (d * x1) * (e * y1) := by grind
  rw [h1, h2, ← hX, ← hu', ← hY, ← hu]
  have h3 : a * X * u + b * Y * u = (a * X + b * Y) * u := by grind
  rw [h3, h]
def Thr (l : L3) (x y : P2) : Prop := l.1 * x.1 * y.2 + l.2.1 * y.1 * x.2 = l.2.2 * x.2 * y.2
theorem cross_thr {l m : L3} (h : crs l m ≠ 0) : Thr l (crX l m) (crY l m) ∧ Thr m (crX l m) (crY l m) := by
  obtain ⟨d, hd, x1, x2, _, _⟩ := frac_spec (l.2.2 * m.2.1 - m.2.2 * l.2.1) h
  obtain ⟨e, he, y1, y2, _, _⟩ := frac_spec (l.1 * m.2.2 - m.1 * l.2.2) h
  have hde : d * e ≠ 0 := fun z => by
    rcases Int.mul_eq_zero.mp z with z | z
    · exact hd z
    · exact he z
  obtain ⟨a1, a2⟩ := cross_alg l.1 l.2.1 l.2.2 m.1 m.2.1 m.2.2
  exact ⟨Int.eq_of_mul_eq_mul_left hde (thr_alg a1 x1 x2 y1 y2), Int.eq_of_mul_eq_mul_left hde (thr_alg a2 x1 x2 y1 y2)⟩
theorem low_of {t b : Int} (h : cm t b = 1) : low t b = (t, b) := by
  unfold low
  rw [h, Int.fdiv_one, Int.fdiv_one]
theorem frac_is (t : Int) {b : Int} (h : b ≠ 0) : 0 < (frac t b).2 ∧ low (frac t b).1 (frac t b).2 = frac t b := by
  obtain ⟨d, _, _, _, h1, h2⟩ := frac_spec t h
  exact ⟨h1, low_of h2⟩
/-- a fraction's numbers are no greater than those that it was made of -/
theorem frac_le (t : Int) {b : Int} (h : b ≠ 0) : (frac t b).1.natAbs ≤ t.natAbs ∧ (frac t b).2.natAbs ≤ b.natAbs := by
  obtain ⟨d, hd, h1, h2, _, _⟩ := frac_spec t h
  have le : ∀ {x y : Int}, x = d * y → y.natAbs ≤ x.natAbs := fun {x y} e => by
    rw [e, Int.natAbs_mul]
    exact Nat.le_mul_of_pos_left _ (Int.natAbs_pos.mpr hd)
  exact ⟨le h1, le h2⟩
end Tw
namespace Tw
open PySem PySem.Spec PyProof.Rows L2

/-! ### a def that stands, a def that keeps its promise -/
structure Df (K : PySem.W.Frag) (mg : Str → Option Value) (x : Str) (st : Stmt) (ps : List Str) where
  f : Addr
  fd : FuncData
  F : Fun K x x st f fd
  g : mg x = some (.ref f)
  b : Binds K fd ps []
structure Fn (P : Program) (w : World) (K : PySem.W.Frag) (mg : Str → Option Value) (base : Heap) (CX : CXT) (k : Nat) (x : Str) (ps : List Str) (sp : Sp) where
  f : Addr
  fd : FuncData
  ok : FnOk P w K mg base CX k f fd ps sp
  g : mg x = some (.ref f)
  kp : PySem.W.keepIn K (.ref f) = true
  b : Binds K fd ps []
section
variable {P : Program} {w : World} {K : PySem.W.Frag} {mg : Str → Option Value} {base : Heap} {CX : CXT} {k : Nat} {x : Str} {ps : List Str} {sp : Sp} {st : Stmt}
def Df.fn (D : Df K mg x st ps) (h : FnOk P w K mg base CX k D.f D.fd ps sp) : Fn P w K mg base CX k x ps sp := ⟨D.f, D.fd, h, D.g, D.F.kp, D.b⟩
end
section
variable {X : Cx} {k j : Nat} {x : Str} {ps : List Str} {sp : Sp} {p pos : Pos} {e : Expr} {es : List Expr} {t : TA}
theorem pcall (C : Fn X.prog X.w X.K X.mg X.base CX0 k x ps sp) (hr : Room j X.A) (ha : PA X (e :: es) t) (hkj : k ≤ j := by decide) (hg : Gl X x := by rfl) (hdb : (x == ("__debug__" : Str)) = false := by decide)
    (he : starEach (e :: es) X.env = (false, eval e X.env) :: starEach es X.env := by rfl) (hpl : (backTo pos (starEach es X.env)).any (·.1) = false := by rfl) :
    PE X (.Call (.Name x p) (e :: es) [] pos) (tCall sp [] E0 t) :=
  pe_call C.ok (hr.mono hkj) hg C.g C.kp C.b .nil pass0 ha hdb he hpl
end

/-! ### heaps -/
theorem same_new {H : Hp} {p : Addr} {o : HO} (h : H p = none) : Same H (upd H p o) := fun b u e => by rw [upd_ne (ne_of_none e h)]; exact e
theorem _root_.L2.Same.tup {K : PySem.W.Frag} {H H' : Hp} {a : Addr} {xs : List V} (e : Same H H') (h : SqT K H a xs) : SqT K H' a xs := by
  rcases h with (h | ⟨o, h⟩) | h
  · exact .inl (.inl (e _ _ h))
  · exact .inl (.inr ⟨o, e _ _ h⟩)
  · exact .inr h
/-- v is a tuple of xs -/
def Tp (K : PySem.W.Frag) (H : Hp) (v : V) (xs : List V) : Prop := ∃ t, v = .ref t ∧ SqT K H t xs
theorem Tp.same {K : PySem.W.Frag} {H H' : Hp} {v : V} {xs : List V} (e : Same H H') (h : Tp K H v xs) : Tp K H' v xs := let ⟨t, r, q⟩ := h; ⟨t, r, e.tup q⟩
theorem Tp.new {K : PySem.W.Frag} {H : Hp} {p : Addr} {xs : List V} : Tp K (upd H p (.tup xs)) (.ref p) xs := ⟨p, rfl, SqT.of upd_same⟩
def Pt (K : PySem.W.Frag) (H : Hp) (v : V) (p : P2) : Prop := Tp K H v [.int p.1, .int p.2]
def Ln (K : PySem.W.Frag) (H : Hp) (v : V) (l : L3) : Prop := Tp K H v [.int l.1, .int l.2.1, .int l.2.2]
theorem Pt.same {K : PySem.W.Frag} {H H' : Hp} {v : V} {p : P2} (e : Same H H') (h : Pt K H v p) : Pt K H' v p := Tp.same e h
theorem Ln.same {K : PySem.W.Frag} {H H' : Hp} {v : V} {p : L3} (e : Same H H') (h : Ln K H v p) : Ln K H' v p := Tp.same e h
/-- a new tuple that is tracked -/
def TpN (H H' : Hp) (v : V) (xs : List V) : Prop := ∃ t, v = .ref t ∧ H t = none ∧ H' t = some (.tup xs)
theorem TpN.tp {K : PySem.W.Frag} {H H' : Hp} {v : V} {xs : List V} (h : TpN H H' v xs) : Tp K H' v xs := let ⟨t, r, _, q⟩ := h; ⟨t, r, SqT.of q⟩
theorem at0 {α : Type} {a : α} {l : List α} : atI (a :: l) 0 = some a := atI_nat (j := 0) rfl
theorem at1 {α : Type} {a b : α} {l : List α} : atI (a :: b :: l) 1 = some b := atI_nat (j := 1) rfl
theorem at2 {α : Type} {a b c : α} {l : List α} : atI (a :: b :: c :: l) 2 = some c := atI_nat (j := 2) rfl

/-! ### // by a number of any sign -/
def CDivA (_ j : Int) : Prop := j ≠ 0 ∧ j.natAbs.log2 < 9000
theorem op_fdivA {X : Cx} : OpR X (binaryOp .FloorDiv) (rI CDivA fun i j => .int (i.fdiv j)) := opI fun i j _ _ _ _ _ hc q => floordiv_int hc.1 q (.inl (PyProof.noPylong_of_log2 hc.2))
theorem divA {i j : Int} {b : Nat} (h : j ≠ 0) (hb : j.natAbs < 2 ^ b) (h0 : 0 < b := by decide) (h9 : b ≤ 9000 := by decide) : CDivA i j := ⟨h, Nat.lt_of_lt_of_le (PySem.Flt.log2_lt_of h0 hb) h9⟩
theorem mulA {i j : Int} {a b : Nat} (ha : i.natAbs < 2 ^ a) (hb : j.natAbs < 2 ^ b) (h0 : 0 < a := by decide) (h1 : 0 < b := by decide) (h : a + b ≤ 1000000 := by decide) : CMulW i j := wide_mul ha hb h0 h1 h

/-! ### bounds by powers of two -/
def Bd (k : Nat) (n : Int) : Prop := n.natAbs < 2 ^ k
theorem Bd.mono {j k : Nat} {n : Int} (h : Bd j n) (hjk : j ≤ k := by decide) : Bd k n := Nat.lt_of_lt_of_le h (Nat.pow_le_pow_right (by decide) hjk)
theorem Bd.add {k : Nat} {m n : Int} (h : Bd k m) (h' : Bd k n) : Bd (k + 1) (m + n) := by
  unfold Bd at *
  rw [Nat.pow_succ]
  omega
theorem Bd.neg {k : Nat} {m : Int} (h : Bd k m) : Bd k (-m) := by
  unfold Bd at *
  rw [Int.natAbs_neg]
  exact h
theorem Bd.sub {k : Nat} {m n : Int} (h : Bd k m) (h' : Bd k n) : Bd (k + 1) (m - n) := by
  rw [Int.sub_eq_add_neg]
  exact h.add h'.neg
theorem Bd.mul {j k : Nat} {m n : Int} (h : Bd j m) (h' : Bd k n) : Bd (j + k) (m * n) := wide_lt h h'
theorem Bd.cm {i j : Nat} {m n : Int} (h : Bd i m) (h' : Bd j n) (h0 : n ≠ 0) : Bd j (cm m n) := Nat.lt_of_le_of_lt (cm_le_right m h0) h'
theorem Bd.mulOk {j k : Nat} {m n : Int} (h : Bd j m) (h' : Bd k n) (h0 : 0 < j := by decide) (h1 : 0 < k := by decide) (hs : j + k ≤ 1000000 := by decide) : CMulW m n := wide_mul h h' h0 h1 hs
theorem Bd.divOk {k : Nat} {m n : Int} (h : Bd k n) (hn : n ≠ 0) (h0 : 0 < k := by decide) (h9 : k ≤ 9000 := by decide) : CDivA m n := divA hn h h0 h9

/-! ### statements in short -/
section
variable {X : Cx} {x : Str} {e : Expr} {te : TE} {pos pos' : Pos}
theorem pset (i : Nat) (nd : X.N.Nodup) (he : PE X e te) (hi : X.N[i]? = some x := by rfl) (hx : Loc X.env.scope x := by first | exact Or.inl rfl | exact Or.inr rfl) (hs : swapsWith e (some (.Name x pos')) pos.line X.env = pure false := by rfl)
    (hf : X.fn x = true ∨ X.env.scope.names.lookup x = some .local := by first | exact .inl rfl | exact .inr rfl) : PS X (.Assign [.Name x pos'] e pos) (tAsg te (gName i)) := ps_set nd hi hx he hs hf
theorem pgn (i : Nat) (nd : X.N.Nodup) (hi : X.N[i]? = some x := by rfl) (hx : Loc X.env.scope x := by first | exact Or.inl rfl | exact Or.inr rfl) (hf : X.fn x = true ∨ X.env.scope.names.lookup x = some .local := by first | exact .inl rfl | exact .inr rfl) : PG X (.Name x pos) (gName i) := pg_name nd hi hx hf
end
/-- a reading that is easier to answer, in a block's place -/
theorem pjoin {X : Cx} {sts : List Stmt} {t u : TS} (h : PSs X sts t) (imp : ∀ D σ H, u D σ H → t D σ H) : PSs X sts u := ⟨fun pins s σ H D I hu => h.run pins s σ H D I (imp D σ H hu)⟩
theorem pjoinE {X : Cx} {e : Expr} {t u : TE} (h : PE X e t) (imp : ∀ σ H Q, u σ H Q → t σ H Q) : PE X e u := ⟨fun pins s σ H Q I hu => h.run pins s σ H Q I (imp σ H Q hu)⟩
theorem item_int {ns : List Int} {i : Nat} {y : V} (hi : (ns.map V.int)[i]? = some y) : ∃ z, ns[i]? = some z ∧ y = V.int z := by
  rw [List.getElem?_map] at hi
  cases e : ns[i]? with
  | none =>
    rw [e] at hi
    cases hi
  | some z =>
    rw [e] at hi
    exact ⟨z, rfl, (Option.some.inj hi).symm⟩
/-- an if whose test is known -/
theorem ifT {c : Bool} {A B : Prop} (hc : c = true) (h : A) : if c = true then A else B := by
  rw [if_pos hc]
  exact h
theorem ifF {c : Bool} {A B : Prop} (hc : c = false) (h : B) : if c = true then A else B := by
  rw [hc, if_neg Bool.false_ne_true]
  exact h
theorem tyes {σ : L2.St} {H : Hp} {Q : Bool → Hp → Prop} (h : Q true H) : tYes σ H Q := h
/-- what len asks, by name -/
def rLenS (K : PySem.W.Frag) : List V → Hp → VK → Prop := fun xs H Q => ∃ p ys, xs = [.ref p] ∧ (SqL K H p ys ∨ SqT K H p ys) ∧ Q (.int ys.length) H
/-- the built-in names stand -/
structure Bl (mg : Str → Option Value) : Prop where
  len : mg "len" = none
  abs : mg "abs" = none
  range : mg "range" = none
  isinstance : mg "isinstance" = none
  sorted : mg "sorted" = none
  list : mg "list" = none
  set : mg "set" = none
  int : mg "int" = none
  str : mg "str" = none
  max : mg "max" = none
  tuple : mg "tuple" = none
  bool : mg "bool" = none
theorem while_mono {r : R2} {i : Nat} {v : V} {f : Int → Int → Bool} (e : r = rI0 fun i j => .bl (f i j)) : ∀ σ H (Q Q' : Bool → Hp → Prop), (∀ b H1, Q b H1 → Q' b H1) → (tTest (tOp r (tVar i) (tC v))) σ H Q → (tTest (tOp r (tVar i) (tC v))) σ H Q' := by
  subst e
  rintro σ H Q Q' f ⟨v, e, i, j, e1, e2, k, ek, q⟩
  exact ⟨v, e, i, j, e1, e2, k, ek, f _ _ q⟩

/-! ### points as data -/
def ptD (p : P2) : PyData := .tuple [.int p.1, .int p.2]
theorem ptD_lay (p : P2) : (ptD p).canLay0 = true := by simp [ptD, PyData.canLay0, PyData.canLayAll0]
theorem ptD_depth (p : P2) : (ptD p).depth = 1 := by simp [ptD, PyData.depth, PyData.depthAll]
theorem ptDs_lay : ∀ ps : List P2, PyData.canLayAll0 (ps.map ptD) = true
  | [] => by simp [PyData.canLayAll0]
  | p :: ps => by simp [PyData.canLayAll0, ptD_lay p, ptDs_lay ps]
theorem ptDs_depth : ∀ ps : List P2, PyData.depthAll (ps.map ptD) ≤ 1
  | [] => by simp [PyData.depthAll]
  | p :: ps => by
    have h1 := ptDs_depth ps
    have h2 := ptD_depth p
    simp only [List.map_cons, PyData.depthAll]
    omega
theorem ptD_shaped (p : P2) : SeqAt.shaped (ptD p) = true := by
  have h := ptD_depth p
  show ((ptD p).canLay0 && decide ((ptD p).depth ≤ 64)) = true
  rw [Bool.and_eq_true]
  exact ⟨ptD_lay p, decide_eq_true (by omega)⟩
theorem ptDs_shaped (ps : List P2) : SeqAt.shaped (.list (ps.map ptD)) = true := by
  have h1 := ptDs_depth ps
  have h2 : PyData.depth (.list (ps.map ptD)) ≤ 64 := by
    simp only [PyData.depth]
    omega
  show (PyData.canLay0 (.list (ps.map ptD)) && decide (PyData.depth (.list (ps.map ptD)) ≤ 64)) = true
  rw [Bool.and_eq_true]
  exact ⟨by simp only [PyData.canLay0]; exact ptDs_lay ps, decide_eq_true h2⟩
theorem ptD_eqv (p q : P2) : PyData.eqv (ptD p) (ptD q) = decide (p = q) := by
  obtain ⟨a, b⟩ := p
  obtain ⟨c, d⟩ := q
  have e : PyData.eqv (ptD (a, b)) (ptD (c, d)) = ((a == c) && ((b == d) && true)) := by simp only [ptD, PyData.eqv, PyData.eqvAll]
  rw [e]
  by_cases h1 : a = c
  · by_cases h2 : b = d
    · simp [h1, h2]
    · simp [h1, h2]
  · simp [h1]
theorem pt_any (p : P2) : ∀ ps : List P2, ((ps.map ptD).any fun z => PyData.eqv z (ptD p)) = decide (p ∈ ps)
  | [] => by simp
  | q :: ps => by
    rw [List.map_cons, List.any_cons, pt_any p ps, ptD_eqv]
    by_cases h : q = p
    · simp [h]
    · have : ¬ p = q := fun z => h z.symm
      by_cases h2 : p ∈ ps <;> simp [h, h2, this]

/-! ### tuples of ints as data -/
def tiD (ns : List Int) : PyData := .tuple (ns.map .int)
theorem ints_lay : ∀ ns : List Int, PyData.canLayAll0 (ns.map .int) = true
  | [] => by simp [PyData.canLayAll0]
  | n :: ns => by simp [PyData.canLayAll0, PyData.canLay0, ints_lay ns]
theorem ints_depth : ∀ ns : List Int, PyData.depthAll (ns.map .int) = 0
  | [] => by simp [PyData.depthAll]
  | n :: ns => by
    have h := ints_depth ns
    simp only [List.map_cons, PyData.depthAll, PyData.depth]
    omega
theorem tiD_shaped (ns : List Int) : SeqAt.shaped (tiD ns) = true := by
  have h : (tiD ns).depth ≤ 64 := by
    have := ints_depth ns
    simp only [tiD, PyData.depth]
    omega
  show ((tiD ns).canLay0 && decide ((tiD ns).depth ≤ 64)) = true
  rw [Bool.and_eq_true]
  exact ⟨by simp only [tiD, PyData.canLay0]; exact ints_lay ns, decide_eq_true h⟩
theorem ints_eqv : ∀ ns ms : List Int, PyData.eqvAll (ns.map .int) (ms.map .int) = decide (ns = ms)
  | [], [] => by simp [PyData.eqvAll]
  | [], m :: ms => by simp [PyData.eqvAll]
  | n :: ns, [] => by simp [PyData.eqvAll]
  | n :: ns, m :: ms => by
    have ih := ints_eqv ns ms
    simp only [List.map_cons, PyData.eqvAll, PyData.eqv, ih]
    by_cases h : n = m
    · by_cases h2 : ns = ms <;> simp [h, h2]
    · simp [h]
theorem tiD_eqv (ns ms : List Int) : PyData.eqv (tiD ns) (tiD ms) = decide (ns = ms) := by
  show PyData.eqvAll (ns.map .int) (ms.map .int) = _
  exact ints_eqv ns ms
theorem ints_dp {K : PySem.W.Frag} {H : Hp} : ∀ ns : List Int, DpAll K H (ns.map V.int) (ns.map .int)
  | [] => .nil
  | n :: ns => .cons (.int n) (ints_dp ns)
theorem tp_dp {K : PySem.W.Frag} {H : Hp} {v : V} {ns : List Int} (h : Tp K H v (ns.map V.int)) : Dp K H v (tiD ns) := by
  obtain ⟨t, rfl, q⟩ := h
  exact .tup q (ints_dp ns)
theorem pt_dp {K : PySem.W.Frag} {H : Hp} {v : V} {p : P2} (h : Pt K H v p) : Dp K H v (ptD p) := tp_dp (ns := [p.1, p.2]) h
theorem ln_dp {K : PySem.W.Frag} {H : Hp} {v : V} {l : L3} (h : Ln K H v l) : Dp K H v (tiD [l.1, l.2.1, l.2.2]) := tp_dp (ns := [l.1, l.2.1, l.2.2]) h
/-! ### a list of points -/
theorem same_upd {H H' : Hp} {p : Addr} {o : HO} (S : Same H H') (h : H p = none) : Same H (upd H' p o) := fun b u e => by rw [upd_ne (ne_of_none e h)]; exact S b u e
theorem hu65 {k : Nat} {A : Around} (hr : Room k A) : A.units + 65 < cLine := by have := hr.un; omega
/-- at p stands the list of the points ks, each at its address -/
structure PtsL (H : Hp) (p : Addr) (ks : List (Addr × P2)) : Prop where
  lst : H p = some (.lst (ks.map fun k => V.ref k.1))
  tup : ∀ k ∈ ks, H k.1 = some (.tup [.int k.2.1, .int k.2.2])
def ptsOf (ks : List (Addr × P2)) : List P2 := ks.map (·.2)
theorem PtsL.same {H H' : Hp} {p : Addr} {ks : List (Addr × P2)} (S : Same H H') (h : PtsL H p ks) : PtsL H' p ks := ⟨S _ _ h.lst, fun k hk => S _ _ (h.tup k hk)⟩
theorem pts_dpAll {K : PySem.W.Frag} {H : Hp} : ∀ {ks : List (Addr × P2)}, (∀ k ∈ ks, H k.1 = some (.tup [.int k.2.1, .int k.2.2])) → DpAll K H (ks.map fun k => V.ref k.1) ((ptsOf ks).map ptD)
  | [], _ => .nil
  | k :: ks, h => .cons (pt_dp ⟨_, rfl, SqT.of (h k List.mem_cons_self)⟩) (pts_dpAll fun k hk => h k (List.mem_cons_of_mem _ hk))
theorem PtsL.dp {K : PySem.W.Frag} {H : Hp} {p : Addr} {ks : List (Addr × P2)} (h : PtsL H p ks) : Dp K H (.ref p) (.list ((ptsOf ks).map ptD)) := .lst (SqL.of h.lst) (pts_dpAll h.tup)
/-- one more point -/
theorem PtsL.more {H : Hp} {p t : Addr} {ks : List (Addr × P2)} {q : P2} (h : PtsL H p ks) (ht : H t = some (.tup [.int q.1, .int q.2])) : PtsL (upd H p (.lst ((ks.map fun k => V.ref k.1) ++ [.ref t]))) p (ks ++ [(t, q)]) := by
  have ne : ∀ a xs, H a = some (.tup xs) → a ≠ p := fun a xs e => ne_of e h.lst (by intro z; cases z)
  refine ⟨by rw [upd_same, List.map_append]; rfl, fun k hk => ?_⟩
  rcases List.mem_append.mp hk with hk | hk
  · rw [upd_ne (ne _ _ (h.tup k hk))]
    exact h.tup k hk
  · have e : k = (t, q) := by simpa using hk
    rw [e, upd_ne (ne _ _ ht)]
    exact ht
/-- points as the laws draw them -/
def Ok (p : P2) : Prop := -1000000 ≤ p.1 ∧ p.1 ≤ 1000000 ∧ -1000000 ≤ p.2 ∧ p.2 ≤ 1000000
structure PsOk (ps : List P2) : Prop where
  nd : ps.Nodup
  ok : ∀ p ∈ ps, Ok p
  two : 2 ≤ ps.length
/-! ### a tuple of one word -/
def wdD (x : Str) : PyData := .tuple [.str x]
theorem wdD_shaped {x : Str} (h : PyData.strOk x = true) : SeqAt.shaped (wdD x) = true := by
  show ((wdD x).canLay0 && decide ((wdD x).depth ≤ 64)) = true
  simp [wdD, PyData.canLay0, PyData.canLayAll0, PyData.depth, PyData.depthAll, h]
theorem wdD_refl (x : Str) : PyData.eqv (wdD x) (wdD x) = true := by simp [wdD, PyData.eqv, PyData.eqvAll]
theorem wd_dp {K : PySem.W.Frag} {H : Hp} {v : V} {x : Str} (h : Tp K H v [.str x]) : Dp K H v (wdD x) := by
  obtain ⟨t, rfl, q⟩ := h
  exact .tup q (.cons (.str x) .nil)
def lnD (l : L3) : PyData := tiD [l.1, l.2.1, l.2.2]
theorem lnD_shaped (l : L3) : SeqAt.shaped (lnD l) = true := tiD_shaped _
theorem lnD_eqv (l m : L3) : PyData.eqv (lnD l) (lnD m) = decide (l = m) := by
  unfold lnD
  rw [tiD_eqv]
  obtain ⟨a, b, c⟩ := l
  obtain ⟨x, y, z⟩ := m
  by_cases h1 : a = x
  · by_cases h2 : b = y
    · by_cases h3 : c = z
      · simp [h1, h2, h3]
      · simp [h1, h2, h3]
    · simp [h1, h2]
  · simp [h1]
/-! ### small numbers: a line's, a point's; the promise of a line through two points -/
def LnB (l : L3) : Prop := Bd 21 l.1 ∧ Bd 21 l.2.1 ∧ Bd 42 l.2.2
def PtB (p : P2) : Prop := Bd 20 p.1 ∧ Bd 20 p.2
theorem cm_bd {k : Nat} {a b : Int} (h : a ≠ 0 ∨ b ≠ 0) (ha : Bd k a) (hb : Bd k b) : Bd k (cm a b) := by
  rcases h with h | h
  · exact Nat.lt_of_le_of_lt (cm_le_left b h) ha
  · exact Nat.lt_of_le_of_lt (cm_le_right a h) hb
theorem cm3_bd {k : Nat} {a b : Int} (c : Int) (h : a ≠ 0 ∨ b ≠ 0) (ha : Bd k a) (hb : Bd k b) : Bd k (cm (cm a b) c) :=
  Nat.lt_of_le_of_lt (cm_le_left c (by have := cm_pos h; omega)) (cm_bd h ha hb)
def spLine (K : PySem.W.Frag) : Sp := fun vs H Q _ => ∃ (v u : V) (p q : P2), vs = [v, u] ∧ Pt K H v p ∧ Pt K H u q ∧ PtB p ∧ PtB q ∧ p ≠ q ∧
  ∀ t, H t = none → Q (.ref t) (upd H t (.tup [.int (lineOf p q).1, .int (lineOf p q).2.1, .int (lineOf p q).2.2]))
theorem abs_of_dvd {k d x y : Int} (h : x = d * y) (hd : d ≠ 0) : y.natAbs ≤ x.natAbs := by
  rw [h, Int.natAbs_mul]
  exact Nat.le_mul_of_pos_left _ (Int.natAbs_pos.mpr hd)
theorem lineOf_bd {p q : P2} (bp : PtB p) (bq : PtB q) (pq : p ≠ q) : LnB (lineOf p q) := by
  have ba : Bd 21 (q.2 - p.2) := bq.2.sub bp.2
  have bb : Bd 21 (p.1 - q.1) := bp.1.sub bq.1
  have bc : Bd 42 ((q.2 - p.2) * p.1 + (p.1 - q.1) * p.2) := (ba.mul bp.1).add (bb.mul bp.2)
  have na := diff_ne pq
  unfold lineOf
  generalize (q.2 - p.2) * p.1 + (p.1 - q.1) * p.2 = c at bc ⊢
  generalize q.2 - p.2 = a at na ba ⊢
  generalize p.1 - q.1 = b at na bb ⊢
  obtain ⟨h1, h2, h3⟩ := norm3_spec c na
  have hd := dv_ne c na
  exact ⟨Nat.lt_of_le_of_lt (abs_of_dvd (k := 0) h1 hd) ba, Nat.lt_of_le_of_lt (abs_of_dvd (k := 0) h2 hd) bb, Nat.lt_of_le_of_lt (abs_of_dvd (k := 0) h3 hd) bc⟩
theorem Ok.b {p : P2} (h : Ok p) : PtB p := by
  obtain ⟨h1, h2, h3, h4⟩ := h
  constructor
  · show p.1.natAbs < 1048576
    omega
  · show p.2.natAbs < 1048576
    omega
def spLaw (K : PySem.W.Frag) : Sp := fun vs H Q _ => ∃ (a : Addr) (ns : List Int), vs = [.ref a] ∧ SqL K H a (ns.map V.int) ∧ ns.length ≤ 63 ∧ ∀ H', Q (.bl true) H'
theorem pts_at0 {k0 k1 : Addr × P2} {ks : List (Addr × P2)} : atI ((k0 :: k1 :: ks).map fun k => V.ref k.1) 0 = some (.ref k0.1) := atI_nat (j := 0) rfl
theorem pts_at1 {k0 k1 : Addr × P2} {ks : List (Addr × P2)} : atI ((k0 :: k1 :: ks).map fun k => V.ref k.1) 1 = some (.ref k1.1) := atI_nat (j := 1) rfl
/-- the first two of points -/
theorem pts_two {ks : List (Addr × P2)} (h : PsOk (ptsOf ks)) : ∃ k0 k1 kr, ks = k0 :: k1 :: kr ∧ k0.2 ≠ k1.2 ∧ Ok k0.2 ∧ Ok k1.2 := by
  have := h.two
  match ks, this with
  | k0 :: k1 :: kr, _ =>
    refine ⟨k0, k1, kr, rfl, fun e => (List.nodup_cons.mp h.nd).1 (by show k0.2 ∈ _; rw [e]; exact List.mem_cons_self), h.ok _ List.mem_cons_self, h.ok _ (List.mem_cons_of_mem _ List.mem_cons_self)⟩
theorem at_item {α : Type} {f : α → V} {l : List α} {i : Nat} {y : V} (hi : (l.map f)[i]? = some y) : ∃ x, l[i]? = some x ∧ y = f x := by
  rw [List.getElem?_map] at hi
  cases e : l[i]? with
  | none =>
    rw [e] at hi
    cases hi
  | some z =>
    rw [e] at hi
    exact ⟨z, rfl, (Option.some.inj hi).symm⟩
theorem pt0 {K : PySem.W.Frag} {H : Hp} {t : Addr} {x : P2} (h : H t = some (.tup [.int x.1, .int x.2])) : Pt K H (.ref t) x := ⟨t, rfl, SqT.of h⟩
end Tw
namespace Tw
open PySem PySem.Spec PyProof.Rows L2
/-! ### a class of errors of the program's own -/
structure Ec (K : PySem.W.Frag) (mg : Str → Option Value) (x : Str) (C : Addr) : Prop where
  g : mg x = some (.ref C)
  exc : PySem.W.excIn K C [.type "ValueError", .type "Exception", .type "BaseException", .type "object"] "ValueError.__new__" = true
  kp : PySem.W.keepIn K (.ref C) = true
  bs : PySem.W.subIn K (.ref C) (.type "BaseException") = some true
  ve : PySem.W.subIn K (.ref C) (.type "ValueError") = some true
  me : PySem.W.subIn K (.ref C) (.ref C) = some true
  ty : PySem.W.typeIn K (.ref C) = some (.type "type")
  cl : PySem.W.isClsIn K C = true
  dc : PySem.W.hasDictIn K C = true
  hg : PySem.W.findIn K (.ref C) "__getattribute__" = some (some (.builtin "BaseException.__getattribute__"))
  hk : PySem.W.findIn K (.ref C) "__getattr__" = some none
  ha : PySem.W.findIn K (.ref C) "__class__" = some (some (.builtin "object.__class__"))
  hm : PySem.W.mroIn K C (.type "object") = some true
section
variable {K : PySem.W.Frag} {mg : Str → Option Value} {x y : Str} {C D : Addr}
/-- what is asked of the written part beside -/
structure Eg (K : PySem.W.Frag) : Prop where
  hn : PySem.W.specialIn K (.builtin "object.__class__") "__get__" = some (some (.builtin "getset_descriptor.__get__"))
  ht : PySem.W.takesIn K (.builtin "object.__class__") = some true
theorem Ec.c (e : Ec K mg x C) (g : Eg K) : ExcC K C := ⟨e.hg, e.hk, e.bs, e.dc, e.ha, g.hn, g.ht, e.hm⟩
theorem Ec.kit (e : Ec K mg x C) {t : Addr} {b : Bool} (h : PySem.W.subIn K (.ref t) (.ref C) = some b) : PySem.W.kitOne K (.ref t) (.ref C) = some b := by
  unfold PySem.W.kitOne
  by_cases q : (Value.ref t == Value.ref C) = true
  · have e1 : t = C := Value.ref.inj (beq_iff_eq.mp q)
    rw [if_pos q]
    rw [e1, e.me] at h
    exact h
  · rw [if_neg q]
    unfold PySem.W.kitCls
    have e2 : ((PySem.W.clsIn K C).isSome && PySem.W.typeIn K (.ref C) == some (.type "type")) = true := by
      rw [e.ty, show (PySem.W.clsIn K C).isSome = true from e.cl]
      rfl
    exact (if_pos e2).trans h
theorem Ec.kitV (e : Ec K mg x C) : PySem.W.kitOne K (.ref C) (.type "ValueError") = some true := by
  unfold PySem.W.kitOne
  have q : (Value.ref C == Value.type "ValueError") = false := rfl
  rw [q, if_neg Bool.false_ne_true]
  unfold PySem.W.kitCls
  have e2 : PySem.W.kitMeta "ValueError" = true := by decide +kernel
  exact (if_pos e2).trans e.ve
theorem Ec.exm (e : Ec K mg x C) {cls : Value} {b : Bool} (h : PySem.W.subIn K cls (.ref C) = some b) : PySem.W.exmOne K cls (.ref C) = some b := PySem.W.exm_ref e.bs e.dc e.ty h
theorem Ec.make {X : Cx} (e : Ec X.K X.mg x C) {m : Str} {j : Nat} {p p2 pos : Pos} (hx : Gl X x := by rfl) (hd : (x == ("__debug__" : Str)) = false := by decide) :
    PMk X (.Call (.Name x p) [.Constant (.str m) j p2] [] pos) (fun _ H Q => Q (.ref C) none H) :=
  pmk_own PySem.F.excBase_ValueError e.exc e.g e.kp (raises_own e.bs e.ty) hx hd
end
/-! ### a def that is handed the caught error -/
structure FnE (P : Program) (w : World) (K : PySem.W.Frag) (mg : Str → Option Value) (base : Heap) (k : Nat) (f : Addr) (fd : FuncData) (ps : List Str) (sp : Addr × Obj → Sp) : Prop where
  len : ∀ z vs H Q E, sp z vs H Q E → vs.length = ps.length
  run : ∀ (A : Around) (out : List Env) (st : Shared) (H : Hp) (ar : Args) (us : List Value) (vs : List V) (Q : VK) (E : XK) (z : Addr × Obj), L2H.RoomH k A → L2H.PinOk out H st z → Env0 P w K mg base A out st H → BindsTo st fd ar (ps.zip us) → Vals vs us → sp z vs H Q E →
    codeAny (model P w) A (.call (.ref f) ar) (CR CX0 out P w H st Q E) st
section
variable {P : Program} {w : World} {K : PySem.W.Frag} {mg : Str → Option Value} {base : Heap}
theorem okE {x qual : Str} {st : Stmt} {f : Addr} {fd : FuncData} {N ps : List Str} {k : Nat} {sp : Addr × Obj → Sp} (F : Fun K x qual st f fd) (S : FnScope N ps (defScope st)) (len : ∀ z vs H Q E, sp z vs H Q E → vs.length = ps.length)
    (hbody : ∀ (cdv : Value) (A : Around) (out : List Env) (s : Shared) (H : Hp) (vs : List V) (Q : VK) (E : XK) (z : Addr × Obj), L2H.RoomH k (A.deeper (envOfC qual (defScope st) s.heap.objs.size f cdv)) → sp z vs H Q E →
      ∃ t, PSs (L2H.cxH CX0 P w K mg base N qual (defScope st) f cdv A out s H E z) (defBody st) t ∧ t { nx := fun _ H' => Q .non H', rt := Q } (start N vs) H) : FnE P w K mg base (k + 1) f fd ps sp := by
  obtain ⟨oc, od, kV, doc, pm, an, cdv, ct, osl, rfl, lk, hcd⟩ := F.ex
  refine ⟨len, fun A out s H ar us vs Q E z room pin env bd rv want => ?_⟩
  have hl := len _ _ _ _ _ want
  have inK : K.In s.heap := env.mod.kin.keeps fun b o e => (env.bs b o e).1
  have nolim : s.heap.NoLimit := env.mod.nolimit.keeps fun b o e => (env.bs b o e).1
  have kinds : ∀ y ∈ ps.zip us, (defScope st).names.lookup y.1 = some .local ∨ ((defScope st).names.lookup y.1 = some .cell ∧ ((cellsFrom (s.heap.objs.size + 1) (defScope st).names []).lookup y.1).isSome = true) := fun ⟨n, v⟩ hy => by
    rcases S.par n (List.of_mem_zip hy).1 with q | q
    · exact .inl q
    · exact .inr ⟨q, PySem.W.cellsFrom_some _ _ _ (.inl q)⟩
  refine codeAny_call_function room.depth (inK _ _ lk) rfl S.co S.gen rfl (PySem.W.codeRec_of inK hcd) (bd _ _ _ _ ?_)
  refine wpAny_newFunctionEnv_cells S.kind kinds fun env1 he s1 x1 => ?_
  subst he
  refine ⟨nolim.keeps x1.toInCall.keep, codeAny_func ?_⟩
  obtain ⟨t, ht, ask⟩ := hbody cdv A out s H vs Q E z (room.deeper _) want
  have I : Inv (L2H.cxH CX0 P w K mg base N qual (defScope st) f cdv A out s H E z) [] (L2.start N vs) H s1 := L2H.inv_startH S pin env hl rv x1
  refine wpAny_mono (ht.run [] s1 (L2.start N vs) H _ I ask) (fun fl s' hs => ?_) fun e s' hs => hs
  have done : ∀ {σ' : L2.St} {H' : Hp} {v : V} {u : Value}, Inv (L2H.cxH CX0 P w K mg base N qual (defScope st) f cdv A out s H E z) [] σ' H' s' → RelV v u → Q v H' → CE out P w H s Q u s' :=
    fun {σ' H' v u} J r1 q1 => ⟨v, H', J.os, J.bare, J.base, J.hok, r1, q1⟩
  cases fl with
  | ret u =>
    obtain ⟨v, σ', H', J, r1, q1⟩ := hs
    exact done J r1 q1
  | next =>
    obtain ⟨σ', H', J, q1⟩ := hs
    exact done (v := V.non) (u := Value.none) J rfl q1
  | brk =>
    obtain ⟨_, _, _, q1⟩ := hs
    exact q1.elim
  | cont =>
    obtain ⟨_, _, _, q1⟩ := hs
    exact q1.elim
end
theorem call_isP {X : Cx} {a D : Addr} {oe : Obj} (C : ExcC X.K D) (hp : (a, oe) ∈ X.pn) (hz : Zc (.ref D) none oe) (hf : ∃ vs, oe.data = .fields vs) : CallR X (.builtin "isinstance") (rIsE X.K D a) := by
  intro pins st σ H xs us Q I r want
  obtain ⟨c, cv, b, rfl, hcv, kit, q⟩ := want
  cases r with
  | cons rx rr =>
    cases rr with
    | cons rt rr =>
      cases rr
      cases rx
      have ec := hcv _ rt
      subst ec
      obtain ⟨there, _⟩ := I.pin (a, oe) (List.mem_append_left _ hp)
      obtain ⟨vs, hv⟩ := hf
      have J : PySem.W.InstAt st.heap a oe D none := by
        obtain ⟨o1, o2, o3, o4⟩ := oe
        obtain ⟨z1, z2⟩ := hz
        dsimp only at z1 z2 hv
        subst z1 z2 hv
        exact ⟨there, rfl, rfl, trivial⟩
      exact PySem.W.kia_one (PySem.W.handS_kitx_exc C.hg C.hk C.hs C.hd C.ha C.hn C.ht C.hm) I.kIn J kit (fun z => nomatch z) fun tk => ⟨.bl b, H, I.kept (t' := tk) fun _ _ z => z, rfl, q⟩
/-- f(e) within an except suite, e the error that it holds -/
theorem pe_callE {X : Cx} {k : Nat} {f : Addr} {fd : FuncData} {x : Str} {ps : List Str} {sp : Addr × Obj → Sp} {te : TE} {e : Expr} {q pos : Pos} (F : FnE X.prog X.w X.K X.mg X.base k f fd ps sp) {z : Addr × Obj} (hz : z ∈ X.pn) (hr : L2H.RoomH k X.A) (hx : Gl X x) (hm : X.mg x = some (.ref f))
    (hk : PySem.W.keepIn X.K (.ref f) = true) (hb : Binds X.K fd ps []) (he : PE X e te) (hdb : (x == ("__debug__" : Str)) = false := by decide) (hs : starEach [e] X.env = (false, eval e X.env) :: starEach [] X.env := by rfl) (hpl : (backTo pos (starEach [] X.env)).any (·.1) = false := by rfl) :
    PE X (.Call (.Name x q) [e] [] pos) (fun σ H Q => te σ H fun v H1 => sp z [v] H1 Q E0) := by
  have ha : PA X [e] (fun σ H Q => te σ H fun v H1 => Q [v] H1) := pa_cons he pa_nil hs
  refine ⟨fun pins s σ H Q I h => ?_⟩
  refine wpAny_Call_Name_kw (ld_glob I hx hm ?_ hdb)
  refine PySem.W.callWith_K (h₀ := X.base) I.ok.mod.kin hk (thn (ha.run pos pins s σ H (fun vs H1 => sp z vs H1 Q E0) I h) fun us s1 ⟨vs, H1, I1, r1, q1⟩ => ⟨I1.kIn, ?_⟩) hs hpl
  have hl : us.length = ps.length := by rw [← r1.length]; exact F.len _ _ _ _ _ q1
  have b1 := hb s1 us I1.kIn (by rw [List.append_nil]; exact hl)
  rw [List.append_nil] at b1
  have P1 := I1.pin z (List.mem_append_left _ hz)
  have pin : L2H.PinOk X.stack H1 s1 z := ⟨P1.1, P1.2.1, fun m => (List.mem_cons.mp (I1.stkSub z.1 m)).elim P1.2.2.1 P1.2.2.2.1, P1.2.2.2.2⟩
  refine wpAny_call (codeAny_mono (F.run X.A X.stack s1 H1 ⟨us, []⟩ us vs Q E0 z hr pin I1.env0 b1 r1 q1) fun r s' after => ?_)
  cases r with
  | error e => exact False.elim after
  | ok fl =>
    cases fl with
    | ret u => exact I1.after after
    | next => exact False.elim after
    | brk => exact False.elim after
    | cont => exact False.elim after
structure Fe (P : Program) (w : World) (K : PySem.W.Frag) (mg : Str → Option Value) (base : Heap) (k : Nat) (x : Str) (ps : List Str) (sp : Addr × Obj → Sp) where
  f : Addr
  fd : FuncData
  ok : FnE P w K mg base k f fd ps sp
  g : mg x = some (.ref f)
  kp : PySem.W.keepIn K (.ref f) = true
  b : Binds K fd ps []
def Df.fe {P : Program} {w : World} {K : PySem.W.Frag} {mg : Str → Option Value} {base : Heap} {x : Str} {st : Stmt} {ps : List Str} {k : Nat} {sp : Addr × Obj → Sp} (D : Df K mg x st ps) (h : FnE P w K mg base k D.f D.fd ps sp) : Fe P w K mg base k x ps sp := ⟨D.f, D.fd, h, D.g, D.F.kp, D.b⟩
/-- a call that may let an error out -/
theorem pcallX {X : Cx} {k j : Nat} {x : Str} {ps : List Str} {sp : Sp} {p pos : Pos} {e : Expr} {es : List Expr} {t : TA} {W : WX} (C : Fn X.prog X.w X.K X.mg X.base (L2.CX X.prog X.w) k x ps sp) (tk : Takes X W) (hr : Room j X.A) (ha : PA X (e :: es) t) (hkj : k ≤ j := by decide) (hg : Gl X x := by rfl)
    (hdb : (x == ("__debug__" : Str)) = false := by decide) (he : starEach (e :: es) X.env = (false, eval e X.env) :: starEach es X.env := by rfl) (hpl : (backTo pos (starEach es X.env)).any (·.1) = false := by rfl) : PE X (.Call (.Name x p) (e :: es) [] pos) (tCallS sp (WE W) t) :=
  pe_callS C.ok (hr.mono hkj) hg C.g C.kp C.b (fun σ => passAt tk σ) ha hdb he hpl
/-- what the laws ask of a caught error: of which classes it is -/
def spMk (K : PySem.W.Frag) (S1 S2 S3 : Addr) : Addr × Obj → Sp := fun z vs H Q _ => ∃ (D : Addr) (b1 b2 b3 : Bool), vs = [.ref z.1] ∧ Zc (.ref D) none z.2 ∧ (∃ v, z.2.data = .fields v) ∧ ExcC K D ∧
  PySem.W.kitOne K (.ref D) (.ref S1) = some b1 ∧ PySem.W.kitOne K (.ref D) (.ref S2) = some b2 ∧ PySem.W.kitOne K (.ref D) (.ref S3) = some b3 ∧ PySem.W.kitOne K (.ref D) (.type "ValueError") = some true ∧
  ∀ H' q, Same H H' → H q = none → H' q = some (.lst ([b1, b2, b3, false].map V.bl)) → Q (.ref q) H'
def tMk (K : PySem.W.Frag) (S1 S2 S3 : Addr) (i : Nat) (a : Addr) (cls : Value) (d : Option Addr) : TE := fun σ H Q => tVar i σ H fun v H1 => v = .ref a ∧ ∃ (D : Addr) (b1 b2 b3 : Bool), cls = .ref D ∧ d = none ∧ ExcC K D ∧
  PySem.W.kitOne K (.ref D) (.ref S1) = some b1 ∧ PySem.W.kitOne K (.ref D) (.ref S2) = some b2 ∧ PySem.W.kitOne K (.ref D) (.ref S3) = some b3 ∧ PySem.W.kitOne K (.ref D) (.type "ValueError") = some true ∧
  ∀ H' q, Same H1 H' → H1 q = none → H' q = some (.lst ([b1, b2, b3, false].map V.bl)) → Q (.ref q) H'
theorem pe_marks {X : Cx} {S1 S2 S3 : Addr} {j i : Nat} {a : Addr} {oe : Obj} {cls : Value} {d : Option Addr} {pn : List (Addr × Obj)} {e : Expr} {q pos : Pos} (C : Fe X.prog X.w X.K X.mg X.base 1 "_law_marks_of" ["e"] (spMk X.K S1 S2 S3)) (hr : Room j X.A)
    (hz : Zc cls d oe) (hf : ∃ v, oe.data = .fields v) (he : PE (X.suite a ((a, oe) :: pn)) e (tVar i)) (h1 : 1 ≤ j := by decide) (hg : Gl (X.suite a ((a, oe) :: pn)) "_law_marks_of" := by rfl)
    (hs : starEach [e] (X.suite a ((a, oe) :: pn)).env = (false, eval e (X.suite a ((a, oe) :: pn)).env) :: starEach [] (X.suite a ((a, oe) :: pn)).env := by rfl) (hpl : (backTo pos (starEach [] (X.suite a ((a, oe) :: pn)).env)).any (·.1) = false := by rfl) :
    PE (X.suite a ((a, oe) :: pn)) (.Call (.Name "_law_marks_of" q) [e] [] pos) (tMk X.K S1 S2 S3 i a cls d) := by
  have hr1 := hr.mono h1
  refine pjoinE (pe_callE (X := X.suite a ((a, oe) :: pn)) C.ok (z := (a, oe)) List.mem_cons_self ⟨hr1.dp, hr1.un⟩ hg C.g C.kp C.b he (by decide) hs hpl) ?_
  rintro σ H Q ⟨v, ev, rfl, D, b1, b2, b3, rfl, rfl, ec, k1, k2, k3, kv, q1⟩
  exact ⟨_, ev, D, b1, b2, b3, rfl, hz, hf, ec, k1, k2, k3, kv, q1⟩
/-- four truths as data -/
def blD (bs : List Bool) : PyData := .list (bs.map .bool)
theorem bls_lay : ∀ bs : List Bool, PyData.canLayAll0 (bs.map .bool) = true
  | [] => by simp [PyData.canLayAll0]
  | b :: bs => by simp [PyData.canLayAll0, PyData.canLay0, bls_lay bs]
theorem bls_depth : ∀ bs : List Bool, PyData.depthAll (bs.map .bool) = 0
  | [] => by simp [PyData.depthAll]
  | b :: bs => by
    have h := bls_depth bs
    simp only [List.map_cons, PyData.depthAll, PyData.depth]
    omega
theorem blD_shaped (bs : List Bool) : SeqAt.shaped (blD bs) = true := by
  have h : (blD bs).depth ≤ 64 := by
    have := bls_depth bs
    simp only [blD, PyData.depth]
    omega
  show ((blD bs).canLay0 && decide ((blD bs).depth ≤ 64)) = true
  rw [Bool.and_eq_true]
  exact ⟨by simp only [blD, PyData.canLay0]; exact bls_lay bs, decide_eq_true h⟩
theorem bls_dp {K : PySem.W.Frag} {H : Hp} : ∀ bs : List Bool, DpAll K H (bs.map V.bl) (bs.map .bool)
  | [] => .nil
  | b :: bs => .cons (.bl b) (bls_dp bs)
theorem bl_dp {K : PySem.W.Frag} {H : Hp} {a : Addr} {bs : List Bool} (h : H a = some (.lst (bs.map V.bl))) : Dp K H (.ref a) (blD bs) := .lst (SqL.of h) (bls_dp bs)
theorem bls_eqv : ∀ bs cs : List Bool, PyData.eqvAll (bs.map .bool) (cs.map .bool) = decide (bs = cs)
  | [], [] => by simp [PyData.eqvAll]
  | [], c :: cs => by simp [PyData.eqvAll]
  | b :: bs, [] => by simp [PyData.eqvAll]
  | b :: bs, c :: cs => by
    have ih := bls_eqv bs cs
    simp only [List.map_cons, PyData.eqvAll, ih]
    by_cases h2 : bs = cs <;> cases b <;> cases c <;> simp [PyData.eqv, h2]
theorem blD_eqv (bs cs : List Bool) : PyData.eqv (blD bs) (blD cs) = decide (bs = cs) := by
  show PyData.eqvAll (bs.map .bool) (cs.map .bool) = _
  exact bls_eqv bs cs
end Tw
namespace Tw
open PySem PySem.Spec PyProof.Rows L2
def top (i : Nat) : Stmt := PySem.Challenge.pw_twoline_k01_lines_through_two_points.main.body.getD i (.Pass ⟨0, 0, 0, 0⟩)
abbrev s_LineError : Stmt := top 1
abbrev s_SamePoint : Stmt := top 2
abbrev s_BadPoints : Stmt := top 3
abbrev s_BadText : Stmt := top 4
abbrev s_common : Stmt := top 6
abbrev s_line_of : Stmt := top 7
abbrev s__law_cell_at : Stmt := top 9
abbrev s__law_whole : Stmt := top 10
abbrev s__law_point_by : Stmt := top 11
abbrev s__law_points_by : Stmt := top 12
abbrev s__law_divisor : Stmt := top 13
abbrev s__law_low : Stmt := top 14
abbrev s__law_line : Stmt := top 15
abbrev s__law_on : Stmt := top 16
abbrev s__law_is_tuple : Stmt := top 17
abbrev s__law_marks_of : Stmt := top 18
abbrev s__law_same : Stmt := top 19
abbrev s_law : Stmt := top 20
section
variable {P : Program} {w : World} {K : PySem.W.Frag} {mg : Str → Option Value} {base : Heap}
/-! common -/
def spCm : Sp := fun vs H Q _ => ∃ i j : Int, vs = [.int i, .int j] ∧ Q (.int (cm i j)) H
theorem sc_common : FnScope ["one", "other", "a", "b", "rest"] ["one", "other"] (defScope s_common) := ⟨rfl, rfl, rfl, by decide +kernel, rfl, by decide +kernel, by decide +kernel⟩
theorem ok_common (D : Df K mg "common" s_common ["one", "other"]) (B : Bl mg) : FnOk P w K mg base CX0 1 D.f D.fd ["one", "other"] spCm := by
  refine D.F.ok sc_common (fun vs H Q E h => ?_) (fun cdv A outer s H vs Q E hr h => ?_)
  · obtain ⟨i, j, rfl, _⟩ := h
    rfl
  · obtain ⟨i, j, rfl, q⟩ := h
    have nd := sc_common.nd
    refine ⟨_, pss_cons (pset 2 nd (pe_callB call_abs (by rfl) B.abs boot_abs (pa_cons (pv 0) pa_nil)))
      (pss_cons (pset 3 nd (pe_callB call_abs (by rfl) B.abs boot_abs (pa_cons (pv 1) pa_nil)))
      (pss_cons (ps_while PassesOwn.never (pt_cmpR op_gt (pv 3) pe_int (nomark _)) (pss_cons (pset 4 nd (pe_op op_mod (pv 2) (pv 3))) (pss_cons (pset 2 nd (pv 3)) (pss_one (pset 3 nd (pv 4))))))
      (pss_one (ps_ret (pv 2))))), ?_⟩
    refine ⟨_, rfl, _, rfl, _, rfl, _, rfl, ?_⟩
    refine while_by (fun σ H' => H' = H ∧ ∃ (a b : Int) (r : Option V), σ = [some (.int i), some (.int j), some (.int a), some (.int b), r] ∧ 0 ≤ a ∧ 0 ≤ b ∧ cm a b = cm i j)
      (fun σ _ => match σ with | [_, _, _, some (.int b), _] => b.toNat | _ => 0) ⟨rfl, _, _, none, rfl, ?_, ?_, cm_abs i j⟩ ?_ (while_mono rfl)
    · split <;> omega
    · split <;> omega
    · rintro σ H' ⟨rfl, a, b, r, rfl, ha, hb, e⟩
      refine ⟨_, rfl, _, _, rfl, rfl, _, rfl, ite2 (fun hc => ?_) (fun hc => ?_)⟩
      · have hb0 : 0 < b := of_decide_eq_true hc
        obtain ⟨g1, g2, g3⟩ := gcd_turn ha hb0
        refine ⟨_, rfl, _, rfl, _, _, rfl, rfl, hb0, _, rfl, _, rfl, ⟨rfl, b, a % b, _, rfl, hb, g2, ?_⟩, ?_⟩
        · rw [← e]
          unfold cm
          rw [g1]
        · show (a % b).toNat < b.toNat
          omega
      · have hb0 : b = 0 := by
          have : ¬ 0 < b := fun z => hc (decide_eq_true z)
          omega
        refine ⟨_, rfl, ?_⟩
        have : cm i j = a := by
          rw [← e, hb0]
          unfold cm
          rw [Int.gcd_zero]
          omega
        rw [this] at q
        exact q
/-! _law_divisor -/
theorem sc__law_divisor : FnScope ["a", "b", "rest"] ["a", "b"] (defScope s__law_divisor) := ⟨rfl, rfl, rfl, by decide +kernel, rfl, by decide +kernel, by decide +kernel⟩
theorem ok__law_divisor (D : Df K mg "_law_divisor" s__law_divisor ["a", "b"]) (B : Bl mg) : FnOk P w K mg base CX0 1 D.f D.fd ["a", "b"] spCm := by
  refine D.F.ok sc__law_divisor (fun vs H Q E h => ?_) (fun cdv A outer s H vs Q E hr h => ?_)
  · obtain ⟨i, j, rfl, _⟩ := h
    rfl
  · obtain ⟨i, j, rfl, q⟩ := h
    have nd := sc__law_divisor.nd
    refine ⟨_, pss_cons (pset 0 nd (pe_callB call_abs (by rfl) B.abs boot_abs (pa_cons (pv 0) pa_nil)))
      (pss_cons (pset 1 nd (pe_callB call_abs (by rfl) B.abs boot_abs (pa_cons (pv 1) pa_nil)))
      (pss_cons (ps_while PassesOwn.never (pt_cmpR op_gt (pv 1) pe_int (nomark _)) (pss_cons (pset 2 nd (pe_op op_mod (pv 0) (pv 1))) (pss_cons (pset 0 nd (pv 1)) (pss_one (pset 1 nd (pv 2))))))
      (pss_one (ps_ret (pv 0))))), ?_⟩
    refine ⟨_, rfl, _, rfl, _, rfl, _, rfl, ?_⟩
    refine while_by (fun σ H' => H' = H ∧ ∃ (a b : Int) (r : Option V), σ = [some (.int a), some (.int b), r] ∧ 0 ≤ a ∧ 0 ≤ b ∧ cm a b = cm i j)
      (fun σ _ => match σ with | [_, some (.int b), _] => b.toNat | _ => 0) ⟨rfl, _, _, none, rfl, ?_, ?_, cm_abs i j⟩ ?_ (while_mono rfl)
    · split <;> omega
    · split <;> omega
    · rintro σ H' ⟨rfl, a, b, r, rfl, ha, hb, e⟩
      refine ⟨_, rfl, _, _, rfl, rfl, _, rfl, ite2 (fun hc => ?_) (fun hc => ?_)⟩
      · have hb0 : 0 < b := of_decide_eq_true hc
        obtain ⟨g1, g2, g3⟩ := gcd_turn ha hb0
        refine ⟨_, rfl, _, rfl, _, _, rfl, rfl, hb0, _, rfl, _, rfl, ⟨rfl, b, a % b, _, rfl, hb, g2, ?_⟩, ?_⟩
        · rw [← e]
          unfold cm
          rw [g1]
        · show (a % b).toNat < b.toNat
          omega
      · have hb0 : b = 0 := by
          have : ¬ 0 < b := fun z => hc (decide_eq_true z)
          omega
        refine ⟨_, rfl, ?_⟩
        have : cm i j = a := by
          rw [← e, hb0]
          unfold cm
          rw [Int.gcd_zero]
          omega
        rw [this] at q
        exact q
/-! _law_cell_at, _law_whole -/
def spCell (K : PySem.W.Frag) : Sp := fun vs H Q _ => ∃ (a : Addr) (ns : List Int) (k : Int), vs = [.ref a, .int k] ∧ SqL K H a (ns.map V.int) ∧ 0 ≤ k ∧ ∀ n : Int, Q (.int n) H
theorem sc__law_cell_at : FnScope ["script", "k"] ["script", "k"] (defScope s__law_cell_at) := ⟨rfl, rfl, rfl, by decide +kernel, rfl, by decide +kernel, by decide +kernel⟩
theorem ok__law_cell_at (D : Df K mg "_law_cell_at" s__law_cell_at ["script", "k"]) (B : Bl mg) : FnOk P w K mg base CX0 1 D.f D.fd ["script", "k"] (spCell K) := by
  refine D.F.ok sc__law_cell_at (fun vs H Q E h => ?_) (fun cdv A outer s H vs Q E hr h => ?_)
  · obtain ⟨a, ns, k, rfl, _⟩ := h
    rfl
  · obtain ⟨a, ns, k, rfl, hS, hk, q⟩ := h
    refine ⟨_, pss_cons (ps_if (pt_cmpR op_lt (pv 1) (pe_callB call_len_seq (by rfl) B.len PySem.boot_len (pa_cons (pv 0) pa_nil)) (nomark _)) (pss_one (ps_ret (pe_ix ix_list (pv 0) (pv 1) (fun _ _ => rfl)))) pss_nil)
      (pss_one (ps_ret pe_int)), ?_⟩
    refine ⟨_, rfl, _, rfl, a, _, rfl, .inl hS, _, _, rfl, rfl, _, rfl, ite2 (fun hc => ?_) (fun hc => q _)⟩
    have hlt : k < ((ns.map V.int).length : Int) := of_decide_eq_true hc
    have hn : k.toNat < ns.length := by rw [List.length_map] at hlt; omega
    refine ⟨_, rfl, _, rfl, _, _, _, .int ns[k.toNat], rfl, rfl, hS, at_of (j := k.toNat) (by omega) ?_, q _⟩
    rw [List.getElem?_map, List.getElem?_eq_getElem hn]
    rfl
/-! _law_whole -/
def spWhole : Sp := fun vs H Q _ => ∃ n : Int, vs = [.int n] ∧ Q (.bl true) H
theorem sc__law_whole : FnScope ["found"] ["found"] (defScope s__law_whole) := ⟨rfl, rfl, rfl, by decide +kernel, rfl, by decide +kernel, by decide +kernel⟩
theorem ok__law_whole (D : Df K mg "_law_whole" s__law_whole ["found"]) (B : Bl mg) : FnOk P w K mg base CX0 1 D.f D.fd ["found"] spWhole := by
  refine D.F.ok sc__law_whole (fun vs H Q E h => ?_) (fun cdv A outer s H vs Q E hr h => ?_)
  · obtain ⟨n, rfl, _⟩ := h
    rfl
  · obtain ⟨n, rfl, q⟩ := h
    refine ⟨_, pss_one (ps_ret (pe_and (pe_callB call_isi (by rfl) B.isinstance boot_isinstance (pa_cons (pv 0) (pa_cons (pe_bltn (v := .ty "int") (by rfl) B.int boot_int rfl) pa_nil)))
      (pe_one (pe_not (pe_callB call_isi (by rfl) B.isinstance boot_isinstance (pa_cons (pv 0) (pa_cons (pe_bltn (v := .ty "bool") (by rfl) B.bool boot_bool rfl) pa_nil))))))), ?_⟩
    refine ⟨_, rfl, _, _, _, _, true, rfl, .ty "int", .base (.int n), kit_ty (by decide +kernel), true, rfl, iteT ?_⟩
    exact ⟨_, rfl, _, _, _, _, false, rfl, .ty "bool", .base (.int n), kit_ty (by decide +kernel), false, rfl, q⟩
/-! _law_line -/
theorem sc__law_line : FnScope ["one", "other", "a", "b", "c", "whole"] ["one", "other"] (defScope s__law_line) := ⟨rfl, rfl, rfl, by decide +kernel, rfl, by decide +kernel, by decide +kernel⟩
theorem ok__law_line (D : Df K mg "_law_line" s__law_line ["one", "other"]) (C : Fn P w K mg base CX0 1 "_law_divisor" ["a", "b"] spCm) : FnOk P w K mg base CX0 2 D.f D.fd ["one", "other"] (spLine K) := by
  refine D.F.ok sc__law_line (fun vs H Q E h => ?_) (fun cdv A outer s H vs Q E hr h => ?_)
  · obtain ⟨v, u, p, q, rfl, _⟩ := h
    rfl
  · obtain ⟨_, _, p, q, rfl, ⟨i, rfl, hp⟩, ⟨j, rfl, hq⟩, bp, bq, pq, k⟩ := h
    have nd := sc__law_line.nd
    refine ⟨_, pss_cons (pset 2 nd (pe_op op_sub (pe_ix ix_tup (pv 1) pe_int (fun _ _ => rfl)) (pe_ix ix_tup (pv 0) pe_int (fun _ _ => rfl))))
      (pss_cons (pset 3 nd (pe_op op_sub (pe_ix ix_tup (pv 0) pe_int (fun _ _ => rfl)) (pe_ix ix_tup (pv 1) pe_int (fun _ _ => rfl))))
      (pss_cons (ps_if (PW.pt (pw_or (pt_cmpR op_lt (pv 2) pe_int (nomark _)) (pw_or1 (PW.pt (pw_and (pt_cmpR op_eq (pv 2) pe_int (nomark _)) (pw_and1 (pt_cmpR op_lt (pv 3) pe_int (nomark _))))))))
        (pss_cons (pset 2 nd (pe_op op_sub pe_int (pv 2))) (pss_one (pset 3 nd (pe_op op_sub pe_int (pv 3))))) pss_nil)
      (pjoin (u := fun D' σ H' => ∃ a' b' : Int, σ = [some (.ref i), some (.ref j), some (.int a'), some (.int b'), none, none] ∧ H' = H ∧ Bd 21 a' ∧ Bd 21 b' ∧ (a' ≠ 0 ∨ b' ≠ 0) ∧
          ∀ t, H t = none → D'.rt (.ref t) (upd H t (.tup [.int (a'.fdiv (cm (cm a' b') (a' * p.1 + b' * p.2))), .int (b'.fdiv (cm (cm a' b') (a' * p.1 + b' * p.2))), .int ((a' * p.1 + b' * p.2).fdiv (cm (cm a' b') (a' * p.1 + b' * p.2)))])))
        (pss_cons (pset 4 nd (pe_op op_add (pe_op op_mulW (pv 2) (pe_ix ix_tup (pv 0) pe_int (fun _ _ => rfl))) (pe_op op_mulW (pv 3) (pe_ix ix_tup (pv 0) pe_int (fun _ _ => rfl)))))
        (pss_cons (pset 5 nd (pcall C hr (pa_cons (pcall C hr (pa_cons (pv 2) (pa_cons (pv 3) pa_nil))) (pa_cons (pv 4) pa_nil))))
        (pss_one (ps_ret (pe_tup (pa_cons (pe_op op_fdivA (pv 2) (pv 5)) (pa_cons (pe_op op_fdivA (pv 3) (pv 5)) (pa_cons (pe_op op_fdivA (pv 4) (pv 5)) pa_nil))))))))
        ?_))), ?_⟩
    · rintro D' σ H' ⟨a', b', rfl, rfl, ba, bb, ne, k'⟩
      refine ⟨_, rfl, _, rfl, _, _, _, _, rfl, rfl, hp, at0, _, _, rfl, rfl, ba.mulOk bp.1, _, rfl, _, rfl, _, _, _, _, rfl, rfl, hp, at1, _, _, rfl, rfl, bb.mulOk bp.2, _, _, rfl, rfl, ?_⟩
      have hpos := cm3_pos (a' * p.1 + b' * p.2) ne
      have hB := cm3_bd (a' * p.1 + b' * p.2) ne ba bb
      refine ⟨_, rfl, _, rfl, _, _, rfl, _, rfl, _, _, rfl, ?_⟩
      refine ⟨_, rfl, _, rfl, _, _, rfl, rfl, hB.divOk (by omega), _, rfl, _, rfl, _, _, rfl, rfl, hB.divOk (by omega), _, rfl, _, rfl, _, _, rfl, rfl, hB.divOk (by omega), (by show 3 ≤ sizeLine; decide), k'⟩
    · have k2 : ∀ t, H t = none → Q (.ref t) (upd H t (.tup [.int (lawLine p q).1, .int (lawLine p q).2.1, .int (lawLine p q).2.2])) := fun t ht => by
        rw [lawLine_eq pq]; exact k t ht
      have na := diff_ne pq
      have ba : Bd 21 (q.2 - p.2) := bq.2.sub bp.2
      have bb : Bd 21 (p.1 - q.1) := bp.1.sub bq.1
      refine ⟨_, rfl, _, _, _, _, rfl, rfl, hq, at1, _, rfl, _, _, _, _, rfl, rfl, hp, at1, _, _, rfl, rfl, _, rfl, _, _, _, _, rfl, rfl, hp, at0, _, rfl, _, _, _, _, rfl, rfl, hq, at0, _, _, rfl, rfl, ?_⟩
      unfold lawLine at k2
      dsimp only at k2
      by_cases hL : Low (q.2 - p.2) (p.1 - q.1)
      · rw [if_pos hL, if_pos hL] at k2
        have yes : ∃ a' b' : Int, [some (V.ref i), some (V.ref j), some (V.int (0 - (q.2 - p.2))), some (V.int (0 - (p.1 - q.1))), (none : Option V), none] = [some (.ref i), some (.ref j), some (.int a'), some (.int b'), none, none] ∧ H = H ∧ Bd 21 a' ∧ Bd 21 b' ∧ (a' ≠ 0 ∨ b' ≠ 0) ∧
          ∀ t, H t = none → Q (.ref t) (upd H t (.tup [.int (a'.fdiv (cm (cm a' b') (a' * p.1 + b' * p.2))), .int (b'.fdiv (cm (cm a' b') (a' * p.1 + b' * p.2))), .int ((a' * p.1 + b' * p.2).fdiv (cm (cm a' b') (a' * p.1 + b' * p.2)))])) :=
          ⟨0 - (q.2 - p.2), 0 - (p.1 - q.1), rfl, rfl, by rw [Int.zero_sub]; exact ba.neg, by rw [Int.zero_sub]; exact bb.neg, by omega, k2⟩
        refine ⟨_, rfl, _, _, rfl, rfl, _, rfl, ite2 (fun hc => ?_) (fun hc => ?_)⟩
        · exact iteT ⟨_, rfl, _, _, rfl, rfl, _, rfl, _, _, rfl, rfl, yes⟩
        · have h1 : ¬ q.2 - p.2 < 0 := fun z => hc (decide_eq_true z)
          have h0 : q.2 - p.2 = 0 := by unfold Low at hL; omega
          have h2 : p.1 - q.1 < 0 := by unfold Low at hL; omega
          refine ⟨_, rfl, rfl, _, rfl, ite2 (fun _ => ?_) (fun z => ?_)⟩
          · exact ⟨_, rfl, _, _, rfl, rfl, _, rfl, ifT (decide_eq_true h2) ⟨_, rfl, _, _, rfl, rfl, _, rfl, _, _, rfl, rfl, yes⟩⟩
          · exact absurd (decide_eq_true (congrArg V.int h0)) z
      · rw [if_neg hL, if_neg hL] at k2
        have no : ∃ a' b' : Int, [some (V.ref i), some (V.ref j), some (V.int (q.2 - p.2)), some (V.int (p.1 - q.1)), (none : Option V), none] = [some (.ref i), some (.ref j), some (.int a'), some (.int b'), none, none] ∧ H = H ∧ Bd 21 a' ∧ Bd 21 b' ∧ (a' ≠ 0 ∨ b' ≠ 0) ∧
          ∀ t, H t = none → Q (.ref t) (upd H t (.tup [.int (a'.fdiv (cm (cm a' b') (a' * p.1 + b' * p.2))), .int (b'.fdiv (cm (cm a' b') (a' * p.1 + b' * p.2))), .int ((a' * p.1 + b' * p.2).fdiv (cm (cm a' b') (a' * p.1 + b' * p.2)))])) :=
          ⟨q.2 - p.2, p.1 - q.1, rfl, rfl, ba, bb, na, k2⟩
        refine ⟨_, rfl, _, _, rfl, rfl, _, rfl, ite2 (fun hc => ?_) (fun hc => ?_)⟩
        · exact absurd (.inl (of_decide_eq_true hc)) hL
        · refine ⟨_, rfl, rfl, _, rfl, ite2 (fun z => ?_) (fun z => ?_)⟩
          · have h0 : q.2 - p.2 = 0 := V.int.inj (of_decide_eq_true z)
            have h2 : ¬ p.1 - q.1 < 0 := fun y => hL (.inr ⟨h0, y⟩)
            exact ⟨_, rfl, _, _, rfl, rfl, _, rfl, ifF (decide_eq_false h2) no⟩
          · exact iteF no
/-! _law_is_tuple -/
def spIsT (K : PySem.W.Frag) : Sp := fun vs H Q _ => ∃ (t : Addr) (v : V) (ns ms : List Int), vs = [.ref t, v] ∧ H t = some (.tup (ns.map V.int)) ∧ Tp K H v (ms.map V.int) ∧ Q (.bl (decide (ns = ms))) H
theorem sc__law_is_tuple : FnScope ["found", "due", "number"] ["found", "due"] (defScope s__law_is_tuple) := ⟨rfl, rfl, rfl, by decide +kernel, rfl, by decide +kernel, by decide +kernel⟩
theorem ok__law_is_tuple (D : Df K mg "_law_is_tuple" s__law_is_tuple ["found", "due"]) (B : Bl mg) (C : Fn P w K mg base CX0 1 "_law_whole" ["found"] spWhole) : FnOk P w K mg base CX0 2 D.f D.fd ["found", "due"] (spIsT K) := by
  refine D.F.ok sc__law_is_tuple (fun vs H Q E h => ?_) (fun cdv A outer s H vs Q E hr h => ?_)
  · obtain ⟨t, v, ns, ms, rfl, _⟩ := h
    rfl
  · obtain ⟨t, _, ns, ms, rfl, ht, ⟨d, rfl, hd⟩, q⟩ := h
    have nd := sc__law_is_tuple.nd
    refine ⟨_, pss_cons (ps_if (PW.pt (pw_or (pt_not (pt_val (pe_callB call_isi (by rfl) B.isinstance boot_isinstance (pa_cons (pv 0) (pa_cons (pe_bltn (v := .ty "tuple") (by rfl) B.tuple boot_tuple rfl) pa_nil)))))
        (pw_or1 (pt_cmpR op_ne (pe_callB call_len_seq (by rfl) B.len PySem.boot_len (pa_cons (pv 0) pa_nil)) (pe_callB call_len_seq (by rfl) B.len PySem.boot_len (pa_cons (pv 1) pa_nil)) (nomark _))))) (pss_one (ps_ret pe_bl)) pss_nil)
      (pss_cons (ps_for PassesOwn.never rfl (pi_tup (pv 0)) (pgn 2 nd) (pss_one (ps_if (pt_not (pt_val (pcall C hr (pa_cons (pv 2) pa_nil)))) (pss_one (ps_ret pe_bl)) pss_nil)))
      (pss_one (ps_ret (pe_cmpR (op_eqD hr.units) (pv 0) (pv 1) (nomark _))))), ?_⟩
    refine ⟨_, rfl, _, _, _, _, true, rfl, .ty "tuple", .base (.tup ht), kit_ty (by decide +kernel), true, rfl, iteF ?_⟩
    refine ⟨_, rfl, t, _, rfl, .inr (SqT.of ht), _, rfl, d, _, rfl, .inr hd, rfl, _, rfl, ite2 (fun hc => ?_) (fun hc => ?_)⟩
    · have ne : ¬ ns = ms := fun e => by
        rw [e, decide_eq_true rfl] at hc
        cases hc
      rw [decide_eq_false ne] at q
      exact q
    · refine ⟨_, rfl, t, rfl, ⟨_, SqT.of ht⟩, for_tup (K := K) (a := t) (xs := ns.map V.int) (fun i σ H' => H' = H ∧ ∃ r : Option V, σ = [some (.ref t), some (.ref d), r]) ⟨rfl, none, rfl⟩ (fun i σ H' _ ⟨e, _⟩ => by rw [e]; exact SqT.of ht) ?_ ?_⟩
      · rintro i y σ H' hi ⟨rfl, r, rfl⟩
        obtain ⟨n, hn, rfl⟩ := item_int hi
        refine ⟨_, rfl, n, rfl, true, rfl, iteF ?_⟩
        exact ⟨rfl, _, rfl⟩
      · rintro σ H' ⟨rfl, r, rfl⟩
        refine ⟨_, rfl, _, rfl, tiD ns, tiD ms, tp_dp ⟨t, rfl, SqT.of ht⟩, tp_dp ⟨d, rfl, hd⟩, tiD_shaped ns, tiD_shaped ms, ?_⟩
        rw [tiD_eqv]
        exact q
/-! _law_point_by -/
theorem pick4 (a b c d : Int) (i : Int) : ∃ x, atI [V.int a, V.int b, V.int c, V.int d] (i % 4) = some (.int x) ∧ (x = a ∨ x = b ∨ x = c ∨ x = d) := by
  have h : i % 4 = ((0 : Nat) : Int) ∨ i % 4 = ((1 : Nat) : Int) ∨ i % 4 = ((2 : Nat) : Int) ∨ i % 4 = ((3 : Nat) : Int) := by omega
  rcases h with h | h | h | h
  · exact ⟨a, at_of h rfl, .inl rfl⟩
  · exact ⟨b, at_of h rfl, .inr (.inl rfl)⟩
  · exact ⟨c, at_of h rfl, .inr (.inr (.inl rfl))⟩
  · exact ⟨d, at_of h rfl, .inr (.inr (.inr rfl))⟩
theorem cpow6 : CPow 10 6 := ⟨by decide, by decide, by decide⟩
def spPointBy : Sp := fun vs H Q _ => ∃ i j k : Int, vs = [.int i, .int j, .int k] ∧ ∀ H' t p, Same H H' → H t = none → H' t = some (.tup [.int (Prod.fst (α := Int) (β := Int) p), .int p.2]) → Ok p → Q (.ref t) H'
theorem sc__law_point_by : FnScope ["one", "two", "way", "step"] ["one", "two", "way"] (defScope s__law_point_by) := ⟨rfl, rfl, rfl, by decide +kernel, rfl, by decide +kernel, by decide +kernel⟩
theorem ok__law_point_by (D : Df K mg "_law_point_by" s__law_point_by ["one", "two", "way"]) : FnOk P w K mg base CX0 1 D.f D.fd ["one", "two", "way"] spPointBy := by
  refine D.F.ok sc__law_point_by (fun vs H Q E h => ?_) (fun cdv A outer s H vs Q E hr h => ?_)
  · obtain ⟨i, j, k, rfl, _⟩ := h
    rfl
  · obtain ⟨i, j, k, rfl, q⟩ := h
    have nd := sc__law_point_by.nd
    have l2 : 2 ≤ sizeLine := by decide
    refine ⟨_, pss_cons (ps_if (pt_cmpR op_eq (pv 2) pe_int (nomark _)) (pss_one (ps_ret (pe_tup (pa_cons (pe_op op_mod (pv 0) pe_int) (pa_cons (pe_op op_mod (pv 1) pe_int) pa_nil))))) pss_nil)
      (pss_cons (ps_if (pt_cmpR op_eq (pv 2) pe_int (nomark _)) (pss_one (ps_ret (pe_tup (pa_cons (pe_op op_sub (pe_op op_mod (pv 0) pe_int) pe_int) (pa_cons (pe_op op_sub (pe_op op_mod (pv 1) pe_int) pe_int) pa_nil))))) pss_nil)
      (pss_cons (ps_if (pt_cmpR op_eq (pv 2) pe_int (nomark _)) (pss_one (ps_ret (pe_tup (pa_cons (pe_op op_sub (pe_op op_mod (pv 0) pe_int) (pe_op op_pow pe_int pe_int)) (pa_cons (pe_op op_sub (pe_op op_mod (pv 1) pe_int) (pe_op op_pow pe_int pe_int)) pa_nil))))) pss_nil)
      (pss_cons (ps_if (pt_cmpR op_eq (pv 2) pe_int (nomark _)) (pss_one (ps_ret (pe_tup (pa_cons (pe_op op_sub (pe_op op_mod (pv 0) pe_int) pe_int)
        (pa_cons (pe_op op_add (pe_op op_add (pe_op op_mul pe_int (pe_op op_sub (pe_op op_mod (pv 0) pe_int) pe_int)) (pe_op op_mul pe_int (pe_op op_mod (pv 1) pe_int))) pe_int) pa_nil))))) pss_nil)
      (pss_cons (ps_if (pt_cmpR op_eq (pv 2) pe_int (nomark _)) (pss_one (ps_ret (pe_tup (pa_cons
          (pe_ix ix_list (pe_lst (pa_cons (pe_op op_pow pe_int pe_int) (pa_cons (pe_un un_neg (pe_op op_pow pe_int pe_int)) (pa_cons pe_int (pa_cons (pe_op op_sub (pe_op op_pow pe_int pe_int) pe_int) pa_nil))))) (pe_op op_mod (pv 0) pe_int) (fun _ _ => rfl))
        (pa_cons (pe_ix ix_list (pe_lst (pa_cons (pe_op op_pow pe_int pe_int) (pa_cons (pe_un un_neg (pe_op op_pow pe_int pe_int)) (pa_cons pe_int (pa_cons (pe_op op_mod (pv 1) pe_int) pa_nil))))) (pe_op op_mod (pv 1) pe_int) (fun _ _ => rfl)) pa_nil))))) pss_nil)
      (pss_cons (pset 3 nd (pe_op op_sub (pe_op op_mod (pv 0) pe_int) pe_int))
      (pss_cons (ps_if (pt_cmpR op_eq (pe_op op_mod (pv 1) pe_int) pe_int (nomark _)) (pss_one (ps_ret (pe_tup (pa_cons (pe_op op_mul pe_int (pv 3)) (pa_cons (pe_op op_add (pe_op op_mul pe_int (pv 3)) pe_int) pa_nil))))) pss_nil)
      (pss_cons (ps_if (pt_cmpR op_eq (pe_op op_mod (pv 1) pe_int) pe_int (nomark _)) (pss_one (ps_ret (pe_tup (pa_cons (pe_op op_mul pe_int (pv 3)) (pa_cons (pe_op op_sub pe_int (pe_op op_mul pe_int (pv 3))) pa_nil))))) pss_nil)
      (pss_one (ps_ret (pe_tup (pa_cons (pe_op op_mul pe_int (pv 3)) (pa_cons (pe_op op_sub pe_int (pe_op op_mod (pe_op op_fdiv (pv 1) pe_int) pe_int)) pa_nil)))))))))))), ?_⟩
    refine ⟨_, rfl, rfl, _, rfl, ite2 (fun _ => ?_) (fun _ => ?_)⟩
    · refine ⟨_, rfl, _, _, rfl, rfl, (by show (0 : Int) < _; decide), _, rfl, _, _, rfl, rfl, (by show (0 : Int) < _; decide), l2, fun t nt => ?_⟩
      exact q _ t (i % 4, j % 4) (same_new nt) nt upd_same (by unfold Ok; dsimp only; omega)
    refine ⟨_, rfl, rfl, _, rfl, ite2 (fun _ => ?_) (fun _ => ?_)⟩
    · refine ⟨_, rfl, _, _, rfl, rfl, (by show (0 : Int) < _; decide), _, _, rfl, rfl, _, rfl, _, _, rfl, rfl, (by show (0 : Int) < _; decide), _, _, rfl, rfl, l2, fun t nt => ?_⟩
      exact q _ t (i % 7 - 3, j % 3 - 1) (same_new nt) nt upd_same (by unfold Ok; dsimp only; omega)
    refine ⟨_, rfl, rfl, _, rfl, ite2 (fun _ => ?_) (fun _ => ?_)⟩
    · refine ⟨_, rfl, _, _, rfl, rfl, (by show (0 : Int) < _; decide), _, _, rfl, rfl, cpow6, _, _, rfl, rfl, _, rfl, _, _, rfl, rfl, (by show (0 : Int) < _; decide), _, _, rfl, rfl, cpow6, _, _, rfl, rfl, l2, fun t nt => ?_⟩
      exact q _ t (i % 2000001 - 1000000, j % 2000001 - 1000000) (same_new nt) nt upd_same (by unfold Ok; dsimp only; omega)
    refine ⟨_, rfl, rfl, _, rfl, ite2 (fun _ => ?_) (fun _ => ?_)⟩
    · refine ⟨_, rfl, _, _, rfl, rfl, (by show (0 : Int) < _; decide), _, _, rfl, rfl, _, rfl, _, _, rfl, rfl, (by show (0 : Int) < _; decide), _, _, rfl, rfl, _, _, rfl, rfl, .inl ⟨by decide, by decide⟩, _, rfl, _, _, rfl, rfl, (by show (0 : Int) < _; decide), _, _, rfl, rfl, .inl ⟨by decide, by decide⟩, _, _, rfl, rfl, _, _, rfl, rfl, l2, fun t nt => ?_⟩
      exact q _ t (i % 41 - 20, 3 * (i % 41 - 20) + 5 * (j % 2) + 1) (same_new nt) nt upd_same (by unfold Ok; dsimp only; omega)
    refine ⟨_, rfl, rfl, _, rfl, ite2 (fun _ => ?_) (fun _ => ?_)⟩
    · obtain ⟨x, hx, ex⟩ := pick4 1000000 (-1000000) 0 999999 i
      obtain ⟨y, hy, ey⟩ := pick4 1000000 (-1000000) 1 (j % 9) j
      refine ⟨_, _, rfl, rfl, cpow6, _, _, rfl, rfl, cpow6, _, rfl, _, _, rfl, rfl, cpow6, _, _, rfl, rfl, (by show 4 ≤ sizeLine; decide), fun a na => ?_⟩
      refine ⟨_, rfl, _, _, rfl, rfl, (by show (0 : Int) < _; decide), _, _, _, _, rfl, rfl, SqL.of upd_same, hx, ?_⟩
      refine ⟨_, _, rfl, rfl, cpow6, _, _, rfl, rfl, cpow6, _, rfl, _, rfl, _, _, rfl, rfl, (by show (0 : Int) < _; decide), (by show 4 ≤ sizeLine; decide), fun b nb => ?_⟩
      refine ⟨_, rfl, _, _, rfl, rfl, (by show (0 : Int) < _; decide), _, _, _, _, rfl, rfl, SqL.of upd_same, hy, l2, fun t nt => ?_⟩
      have S1 : Same H (upd H a (.lst [V.int 1000000, V.int (-1000000), V.int 0, V.int 999999])) := same_new na
      have S2 := S1.trans (same_new (o := .lst [V.int 1000000, V.int (-1000000), V.int 1, V.int (j % 9)]) nb)
      have S3 := S2.trans (same_new (o := .tup [V.int x, V.int y]) nt)
      exact q _ t (x, y) S3 (S2.free nt) upd_same (by unfold Ok; dsimp only; omega)
    refine ⟨_, rfl, _, _, rfl, rfl, (by show (0 : Int) < _; decide), _, _, rfl, rfl, ?_⟩
    refine ⟨_, rfl, _, _, rfl, rfl, (by show (0 : Int) < _; decide), rfl, _, rfl, ite2 (fun _ => ?_) (fun _ => ?_)⟩
    · refine ⟨_, rfl, _, _, rfl, rfl, .inl ⟨by decide, by decide⟩, _, rfl, _, _, rfl, rfl, .inl ⟨by decide, by decide⟩, _, _, rfl, rfl, l2, fun t nt => ?_⟩
      exact q _ t (250000 * (i % 9 - 4), 100000 * (i % 9 - 4) + 7) (same_new nt) nt upd_same (by unfold Ok; dsimp only; omega)
    refine ⟨_, rfl, _, _, rfl, rfl, (by show (0 : Int) < _; decide), rfl, _, rfl, ite2 (fun _ => ?_) (fun _ => ?_)⟩
    · refine ⟨_, rfl, _, _, rfl, rfl, .inl ⟨by decide, by decide⟩, _, rfl, _, _, rfl, rfl, .inl ⟨by decide, by decide⟩, _, _, rfl, rfl, l2, fun t nt => ?_⟩
      exact q _ t (100000 * (i % 9 - 4), 7 - 200000 * (i % 9 - 4)) (same_new nt) nt upd_same (by unfold Ok; dsimp only; omega)
    · refine ⟨_, rfl, _, _, rfl, rfl, .inl ⟨by decide, by decide⟩, _, rfl, _, _, rfl, rfl, ⟨by decide, by decide⟩, _, _, rfl, rfl, (by show (0 : Int) < _; decide), _, _, rfl, rfl, l2, fun t nt => ?_⟩
      exact q _ t (1000 * (i % 9 - 4), 999999 - j / 3 % 5) (same_new nt) nt upd_same (by unfold Ok; dsimp only; omega)
/-! line_of, where the points are unlike -/
theorem sc_line_of : FnScope ["one", "other", "a", "b", "c", "divisor"] ["one", "other"] (defScope s_line_of) := ⟨rfl, rfl, rfl, by decide +kernel, rfl, by decide +kernel, by decide +kernel⟩
theorem dv_bd {k : Nat} {a b : Int} (c : Int) (h : a ≠ 0 ∨ b ≠ 0) (ha : Bd k a) (hb : Bd k b) : Bd k (dv a b c) := by
  unfold dv
  split
  · rw [Int.zero_sub]; exact (cm3_bd c h ha hb).neg
  · exact cm3_bd c h ha hb
theorem ok_line_of (D : Df K mg "line_of" s_line_of ["one", "other"]) (C : Fn P w K mg base CX0 1 "common" ["one", "other"] spCm) : FnOk P w K mg base CX0 2 D.f D.fd ["one", "other"] (spLine K) := by
  refine D.F.ok sc_line_of (fun vs H Q E h => ?_) (fun cdv A outer s H vs Q E hr h => ?_)
  · obtain ⟨v, u, p, q, rfl, _⟩ := h
    rfl
  · obtain ⟨_, _, p, q, rfl, ⟨i, rfl, hp⟩, ⟨j, rfl, hq⟩, bp, bq, pq, k⟩ := h
    have nd := sc_line_of.nd
    refine ⟨_, pss_cons (pset 2 nd (pe_op op_sub (pe_ix ix_tup (pv 1) pe_int (fun _ _ => rfl)) (pe_ix ix_tup (pv 0) pe_int (fun _ _ => rfl))))
      (pss_cons (pset 3 nd (pe_op op_sub (pe_ix ix_tup (pv 0) pe_int (fun _ _ => rfl)) (pe_ix ix_tup (pv 1) pe_int (fun _ _ => rfl))))
      (pss_cons (ps_if (PW.pt (pw_and (pt_cmpR op_eq (pv 2) pe_int (nomark _)) (pw_and1 (pt_cmpR op_eq (pv 3) pe_int (nomark _))))) (pss_one ps_never) pss_nil)
      (pss_cons (pset 4 nd (pe_op op_add (pe_op op_mulW (pv 2) (pe_ix ix_tup (pv 0) pe_int (fun _ _ => rfl))) (pe_op op_mulW (pv 3) (pe_ix ix_tup (pv 0) pe_int (fun _ _ => rfl)))))
      (pss_cons (pset 5 nd (pcall C hr (pa_cons (pcall C hr (pa_cons (pv 2) (pa_cons (pv 3) pa_nil))) (pa_cons (pv 4) pa_nil))))
      (pss_cons (ps_if (PW.pt (pw_or (pt_cmpR op_lt (pv 2) pe_int (nomark _)) (pw_or1 (PW.pt (pw_and (pt_cmpR op_eq (pv 2) pe_int (nomark _)) (pw_and1 (pt_cmpR op_lt (pv 3) pe_int (nomark _))))))))
        (pss_one (pset 5 nd (pe_op op_sub pe_int (pv 5)))) pss_nil)
      (pjoin (u := fun D' σ H' => ∃ a b c d : Int, σ = [some (.ref i), some (.ref j), some (.int a), some (.int b), some (.int c), some (.int d)] ∧ H' = H ∧ Bd 21 d ∧ d ≠ 0 ∧
          ∀ t, H t = none → D'.rt (.ref t) (upd H t (.tup [.int (a.fdiv d), .int (b.fdiv d), .int (c.fdiv d)])))
        (pss_one (ps_ret (pe_tup (pa_cons (pe_op op_fdivA (pv 2) (pv 5)) (pa_cons (pe_op op_fdivA (pv 3) (pv 5)) (pa_cons (pe_op op_fdivA (pv 4) (pv 5)) pa_nil)))))) ?_)))))), ?_⟩
    · rintro D' σ H' ⟨a', b', c', d', rfl, rfl, bd, dn, k'⟩
      exact ⟨_, rfl, _, rfl, _, _, rfl, rfl, bd.divOk dn, _, rfl, _, rfl, _, _, rfl, rfl, bd.divOk dn, _, rfl, _, rfl, _, _, rfl, rfl, bd.divOk dn, (by show 3 ≤ sizeLine; decide), k'⟩
    · have na := diff_ne pq
      have ba : Bd 21 (q.2 - p.2) := bq.2.sub bp.2
      have bb : Bd 21 (p.1 - q.1) := bp.1.sub bq.1
      have hd := dv_ne ((q.2 - p.2) * p.1 + (p.1 - q.1) * p.2) na
      have hB := dv_bd ((q.2 - p.2) * p.1 + (p.1 - q.1) * p.2) na ba bb
      unfold lineOf norm3 at k
      dsimp only at k
      refine ⟨_, rfl, _, _, _, _, rfl, rfl, hq, at1, _, rfl, _, _, _, _, rfl, rfl, hp, at1, _, _, rfl, rfl, _, rfl, _, _, _, _, rfl, rfl, hp, at0, _, rfl, _, _, _, _, rfl, rfl, hq, at0, _, _, rfl, rfl, ?_⟩
      refine ⟨_, rfl, rfl, _, rfl, ?_⟩
      have rest : ∀ {X : Prop}, X → (if decide ((fun i j => V.int (i - j)) q.2 p.2 = V.int 0) = true then (∃ v, [some (V.ref i), some (.ref j), some (V.int (q.2 - p.2)), some (V.int (p.1 - q.1)), (none : Option V), none][3]? = some (some v) ∧ (scal v (.int 0) = true ∧ ∃ k, V.bl (decide (v = .int 0)) = .bl k ∧ if k = true then False else X)) else (if false = true then False else X)) := fun {X} hX => by
        refine ite2 (fun hc => ?_) (fun _ => iteF hX)
        have h0 : q.2 - p.2 = 0 := V.int.inj (of_decide_eq_true hc)
        have h1 : ¬ V.int (p.1 - q.1) = V.int 0 := fun z => by
          have := V.int.inj z
          omega
        exact ⟨_, rfl, rfl, _, rfl, ifF (decide_eq_false h1) hX⟩
      refine rest ?_
      refine ⟨_, rfl, _, rfl, _, _, _, _, rfl, rfl, hp, at0, _, _, rfl, rfl, ba.mulOk bp.1, _, rfl, _, rfl, _, _, _, _, rfl, rfl, hp, at1, _, _, rfl, rfl, bb.mulOk bp.2, _, _, rfl, rfl, ?_⟩
      refine ⟨_, rfl, _, rfl, _, _, rfl, _, rfl, _, _, rfl, ?_⟩
      by_cases hL : Low (q.2 - p.2) (p.1 - q.1)
      · have ed : dv (q.2 - p.2) (p.1 - q.1) ((q.2 - p.2) * p.1 + (p.1 - q.1) * p.2) = 0 - cm (cm (q.2 - p.2) (p.1 - q.1)) ((q.2 - p.2) * p.1 + (p.1 - q.1) * p.2) := by
          unfold dv
          rw [if_pos hL]
        rw [ed] at k hd hB
        refine ⟨_, rfl, _, _, rfl, rfl, _, rfl, ite2 (fun hc => ?_) (fun hc => ?_)⟩
        · exact iteT ⟨_, rfl, _, _, rfl, rfl, _, _, _, _, rfl, rfl, hB, hd, k⟩
        · have h1 : ¬ q.2 - p.2 < 0 := fun z => hc (decide_eq_true z)
          have h0 : q.2 - p.2 = 0 := by unfold Low at hL; omega
          have h2 : p.1 - q.1 < 0 := by unfold Low at hL; omega
          refine ⟨_, rfl, rfl, _, rfl, ite2 (fun _ => ?_) (fun z => ?_)⟩
          · exact ⟨_, rfl, _, _, rfl, rfl, _, rfl, ifT (decide_eq_true h2) ⟨_, rfl, _, _, rfl, rfl, _, _, _, _, rfl, rfl, hB, hd, k⟩⟩
          · exact absurd (decide_eq_true (congrArg V.int h0)) z
      · have ed : dv (q.2 - p.2) (p.1 - q.1) ((q.2 - p.2) * p.1 + (p.1 - q.1) * p.2) = cm (cm (q.2 - p.2) (p.1 - q.1)) ((q.2 - p.2) * p.1 + (p.1 - q.1) * p.2) := by
          unfold dv
          rw [if_neg hL]
        rw [ed] at k hd hB
        refine ⟨_, rfl, _, _, rfl, rfl, _, rfl, ite2 (fun hc => ?_) (fun hc => ?_)⟩
        · exact absurd (.inl (of_decide_eq_true hc)) hL
        · refine ⟨_, rfl, rfl, _, rfl, ite2 (fun z => ?_) (fun z => ?_)⟩
          · have h0 : q.2 - p.2 = 0 := V.int.inj (of_decide_eq_true z)
            have h2 : ¬ p.1 - q.1 < 0 := fun y => hL (.inr ⟨h0, y⟩)
            exact ⟨_, rfl, _, _, rfl, rfl, _, rfl, ifF (decide_eq_false h2) ⟨_, _, _, _, rfl, rfl, hB, hd, k⟩⟩
          · exact iteF ⟨_, _, _, _, rfl, rfl, hB, hd, k⟩
/-! _law_points_by -/
def spPointsBy (K : PySem.W.Frag) : Sp := fun vs H Q _ => ∃ (a : Addr) (ns : List Int) (st cnt way : Int), vs = [.ref a, .int st, .int cnt, .int way] ∧ SqL K H a (ns.map V.int) ∧ 0 ≤ st ∧ 0 ≤ cnt ∧ cnt ≤ 100 ∧
  ∀ H' p ks, Same H H' → H p = none → PtsL H' p ks → (∀ k ∈ ks, H k.1 = none) → PsOk (ptsOf ks) → ((ks.length : Int) ≤ cnt ∨ ks.length ≤ 2) → Q (.ref p) H'
theorem sc__law_points_by : FnScope ["script", "start", "count", "way", "points", "k", "point", "more"] ["script", "start", "count", "way"] (defScope s__law_points_by) := ⟨rfl, rfl, rfl, by decide +kernel, rfl, by decide +kernel, by decide +kernel⟩
theorem ok__law_points_by (D : Df K mg "_law_points_by" s__law_points_by ["script", "start", "count", "way"]) (B : Bl mg) (C : Fn P w K mg base CX0 1 "_law_cell_at" ["script", "k"] (spCell K))
    (F : Fn P w K mg base CX0 1 "_law_point_by" ["one", "two", "way"] spPointBy) : FnOk P w K mg base CX0 2 D.f D.fd ["script", "start", "count", "way"] (spPointsBy K) := by
  refine D.F.ok sc__law_points_by (fun vs H Q E h => ?_) (fun cdv A outer s H vs Q E hr h => ?_)
  · obtain ⟨a, ns, st, cnt, way, rfl, _⟩ := h
    rfl
  · obtain ⟨a, ns, st, cnt, way, rfl, hS, hst, hc0, hc1, q⟩ := h
    have nd := sc__law_points_by.nd
    have l2 : 2 ≤ sizeLine := by decide
    refine ⟨_, pss_cons (pset 4 nd (pe_lst pa_nil))
      (pss_cons (ps_for PassesOwn.never rfl (pi_range1 (by rfl) B.range (pa_cons (pv 2) pa_nil)) (pgn 5 nd)
        (pss_cons (pset 6 nd (pcall F hr (pa_cons (pcall C hr (pa_cons (pv 0) (pa_cons (pe_op op_add (pv 1) (pe_op op_mul pe_int (pv 5))) pa_nil)))
            (pa_cons (pcall C hr (pa_cons (pv 0) (pa_cons (pe_op op_add (pe_op op_add (pv 1) (pe_op op_mul pe_int (pv 5))) pe_int) pa_nil))) (pa_cons (pv 3) pa_nil)))))
        (pss_one (ps_if (pt_cmpR (op_notInD (hu65 hr)) (pv 6) (pv 4) (by rfl)) (pss_one (ps_expr (pe_bm PySem.F.plainAttrs_list PySem.F.slot_list_append PySem.F.type_list_append mt_append (pv 4) (pa_cons (pv 6) pa_nil)))) pss_nil))))
      (pss_cons (ps_for PassesOwn.never rfl (pi_list (pe_lst (pa_cons (pe_tup (pa_cons pe_int (pa_cons pe_int pa_nil))) (pa_cons (pe_tup (pa_cons pe_int (pa_cons pe_int pa_nil))) pa_nil)))) (pgn 7 nd)
        (pss_one (ps_if (PW.pt (pw_and (pt_cmpR op_lt (pe_callB call_len_seq (by rfl) B.len PySem.boot_len (pa_cons (pv 4) pa_nil)) pe_int (nomark _)) (pw_and1 (pt_cmpR (op_notInD (hu65 hr)) (pv 7) (pv 4) (by rfl)))))
          (pss_one (ps_expr (pe_bm PySem.F.plainAttrs_list PySem.F.slot_list_append PySem.F.type_list_append mt_append (pv 4) (pa_cons (pv 7) pa_nil)))) pss_nil)))
      (pss_one (ps_ret (pv 4))))), ?_⟩
    refine ⟨by decide, fun p np => ?_⟩
    refine ⟨_, rfl, cnt, rfl, by omega, by omega, for_range (lo := 0) (n := cnt.toNat) (fun i σ H' => ∃ ks u v, σ = [some (.ref a), some (.int st), some (.int cnt), some (.int way), some (.ref p), u, v, none] ∧
      Same H H' ∧ PtsL H' p ks ∧ (∀ k ∈ ks, H k.1 = none) ∧ (ptsOf ks).Nodup ∧ (∀ q ∈ ptsOf ks, Ok q) ∧ ks.length ≤ i) ⟨[], none, none, rfl, same_new np, ⟨upd_same, (fun k hk => by cases hk)⟩, (fun k hk => by cases hk), List.nodup_nil, (fun k hk => by cases hk), Nat.le_refl _⟩ ?_ ?_⟩
    · rintro i σ H' hi ⟨ks, u, v, rfl, S, L, fr, hn, ho, hl⟩
      refine ⟨_, rfl, _, rfl, _, rfl, _, _, rfl, rfl, .inl ⟨by decide, by decide⟩, _, _, rfl, rfl, a, ns, _, rfl, S.seq hS, by omega, fun n1 => ?_⟩
      refine ⟨_, rfl, _, rfl, _, rfl, _, _, rfl, rfl, .inl ⟨by decide, by decide⟩, _, _, rfl, rfl, _, _, rfl, rfl, a, ns, _, rfl, S.seq hS, by omega, fun n2 => ?_⟩
      refine ⟨_, rfl, _, _, _, rfl, fun H2 t r S2 nt ht hr' => ?_⟩
      have L2 := L.same S2
      have S3 := S.trans S2
      refine ⟨_, rfl, _, rfl, ptD r, _, pt_dp ⟨t, rfl, SqT.of ht⟩, L2.dp, ptD_shaped r, ptDs_shaped _, _, rfl, ?_⟩
      rw [pt_any]
      refine ite2 (fun hc => ?_) (fun hc => ?_)
      · have hni : r ∉ ptsOf ks := fun z => by
          rw [decide_eq_true z] at hc
          cases hc
        refine ⟨_, rfl, .inl ⟨rfl, _, SqL.of L2.lst⟩, _, rfl, p, _, _, rfl, rfl, L2.lst, ?_, ?_⟩
        · rw [List.length_map]
          exact small1000 (by omega)
        · refine ⟨ks ++ [(t, r)], _, _, rfl, same_upd S3 np, L2.more ht, fun k hk => ?_, ?_, fun q hq => ?_, ?_⟩
          · rcases List.mem_append.mp hk with hk | hk
            · exact fr k hk
            · have e : k = (t, r) := by simpa using hk
              rw [e]
              exact S.free nt
          · show (List.map (·.2) (ks ++ [(t, r)])).Nodup
            rw [List.map_append]
            refine List.nodup_append.mpr ⟨hn, by simp, fun x hx y hy e => ?_⟩
            have ey : y = r := by simpa using hy
            exact hni (by rw [← ey, ← e]; exact hx)
          · have : q ∈ List.map (·.2) (ks ++ [(t, r)]) := hq
            rw [List.map_append] at this
            rcases List.mem_append.mp this with z | z
            · exact ho q z
            · have ey : q = r := by simpa using z
              rw [ey]
              exact hr'
          · rw [List.length_append]
            show ks.length + 1 ≤ i + 1
            omega
      · exact ⟨ks, _, _, rfl, S3, L2, fr, hn, ho, by omega⟩
    · rintro σ H' ⟨ks, u, v, rfl, S, L, fr, hn, ho, hl⟩
      refine ⟨l2, fun t1 n1 => ?_⟩
      refine ⟨l2, fun t2 n2 => ?_⟩
      refine ⟨(by show 2 ≤ sizeLine; decide), fun ml nm => ?_⟩
      have S1 : Same H' (upd H' t1 (.tup [V.int 7, V.int 11])) := same_new n1
      have S2 := S1.trans (same_new (o := .tup [V.int 8, V.int 11]) n2)
      have S3 := S2.trans (same_new (o := .lst [V.ref t1, V.ref t2]) nm)
      have e1 : upd (upd (upd H' t1 (.tup [V.int 7, V.int 11])) t2 (.tup [V.int 8, V.int 11])) ml (.lst [V.ref t1, V.ref t2]) t1 = some (.tup [V.int 7, V.int 11]) := same_new nm _ _ (same_new n2 _ _ upd_same)
      have e2 : upd (upd (upd H' t1 (.tup [V.int 7, V.int 11])) t2 (.tup [V.int 8, V.int 11])) ml (.lst [V.ref t1, V.ref t2]) t2 = some (.tup [V.int 8, V.int 11]) := same_new nm _ _ upd_same
      have em : upd (upd (upd H' t1 (.tup [V.int 7, V.int 11])) t2 (.tup [V.int 8, V.int 11])) ml (.lst [V.ref t1, V.ref t2]) ml = some (.lst [V.ref t1, V.ref t2]) := upd_same
      refine ⟨ml, rfl, ⟨_, SqL.of upd_same⟩, ?_⟩
      generalize hH3 : upd (upd (upd H' t1 (.tup [V.int 7, V.int 11])) t2 (.tup [V.int 8, V.int 11])) ml (.lst [V.ref t1, V.ref t2]) = H3 at S3 e1 e2 em
      show ∃ W : Nat → Nat → L2.St → Hp → Prop, _
      have f1 : H t1 = none := S.free n1
      have f2 : H t2 = none := S.free (S1.free n2)
      have fm : H' ml = none := S2.free nm
      have pm : p ≠ ml := fun z => by rw [← z, L.lst] at fm; cases fm
      refine for_list (K := K) (a := ml) (xs := [V.ref t1, V.ref t2]) (fun i σ H4 => ∃ ks u v z, σ = [some (.ref a), some (.int st), some (.int cnt), some (.int way), some (.ref p), u, v, z] ∧
        Same H H4 ∧ PtsL H4 p ks ∧ (∀ k ∈ ks, H k.1 = none) ∧ (ptsOf ks).Nodup ∧ (∀ q ∈ ptsOf ks, Ok q) ∧ ((ks.length : Int) ≤ cnt ∨ ks.length ≤ 2) ∧
        H4 ml = some (.lst [V.ref t1, V.ref t2]) ∧ H4 t1 = some (.tup [V.int 7, V.int 11]) ∧ H4 t2 = some (.tup [V.int 8, V.int 11]) ∧ (i = 1 → 2 ≤ ks.length ∨ ptsOf ks = [(7, 11)]) ∧ (i = 2 → 2 ≤ ks.length)) ?_ ?_ ?_ ?_
      · exact ⟨ks, u, v, none, rfl, S.trans S3, L.same S3, fr, hn, ho, .inl (by omega), em, e1, e2, fun z => by omega, fun z => by omega⟩
      · rintro i σ H4 _ ⟨_, _, _, _, _, _, _, _, _, _, _, z, _⟩
        exact SqL.of z
      · rintro i y σ H4 hi ⟨ks, u, v, z, rfl, S, L, fr, hn, ho, hl, hm, h1, h2, hi1, hi2⟩
        obtain ⟨t, r, rfl, ht, hrk, hcase, frt⟩ : ∃ t r, y = V.ref t ∧ H4 t = some (.tup [V.int r.1, V.int r.2]) ∧ Ok r ∧ ((i = 0 ∧ r = (7, 11)) ∨ (i = 1 ∧ r = (8, 11))) ∧ H t = none := by
          match i, hi with
          | 0, hi =>
            cases hi
            exact ⟨t1, (7, 11), rfl, h1, by unfold Ok; decide, .inl ⟨rfl, rfl⟩, f1⟩
          | 1, hi =>
            cases hi
            exact ⟨t2, (8, 11), rfl, h2, by unfold Ok; decide, .inr ⟨rfl, rfl⟩, f2⟩
          | _ + 2, hi => cases hi
        have stay : 2 ≤ ks.length ∨ r ∈ ptsOf ks → (i + 1 = 1 → 2 ≤ ks.length ∨ ptsOf ks = [(7, 11)]) ∧ (i + 1 = 2 → 2 ≤ ks.length) := fun hor => by
          refine ⟨fun e => ?_, fun e => ?_⟩
          · have i0 : i = 0 := by omega
            rcases hcase with ⟨_, er⟩ | ⟨e2, _⟩
            · rcases hor with hor | hor
              · exact .inl hor
              · by_cases h2' : 2 ≤ ks.length
                · exact .inl h2'
                · refine .inr ?_
                  have hlen : (ptsOf ks).length = ks.length := List.length_map _
                  match hq : ptsOf ks, hor with
                  | [x], hor =>
                    have ex : r = x := by simpa using hor
                    rw [← ex, er]
                  | x :: x' :: l, _ =>
                    rw [hq] at hlen
                    simp only [List.length_cons] at hlen
                    omega
            · omega
          · have i1 : i = 1 := by omega
            rcases hcase with ⟨e2, _⟩ | ⟨_, er⟩
            · omega
            · rcases hor with hor | hor
              · exact hor
              · rcases hi1 i1 with h | h
                · exact h
                · rw [h, er] at hor
                  exact absurd hor (by decide)
        refine ⟨_, rfl, p, _, rfl, .inl (SqL.of L.lst), _, _, rfl, rfl, _, rfl, ite2 (fun hc => ?_) (fun hc => ?_)⟩
        · have hlt : ks.length < 2 := by
            have := of_decide_eq_true hc
            rw [List.length_map] at this
            omega
          refine ⟨_, rfl, _, rfl, ptD r, _, pt_dp ⟨t, rfl, SqT.of ht⟩, L.dp, ptD_shaped r, ptDs_shaped _, _, rfl, ?_⟩
          rw [pt_any]
          refine ite2 (fun hc => ?_) (fun hc => ?_)
          · have hni : r ∉ ptsOf ks := fun z => by
              rw [decide_eq_true z] at hc
              cases hc
            have mp : ml ≠ p := Ne.symm pm
            have np1 : t1 ≠ p := ne_of h1 L.lst (by intro z; cases z)
            have np2 : t2 ≠ p := ne_of h2 L.lst (by intro z; cases z)
            refine ⟨_, rfl, .inl ⟨rfl, _, SqL.of L.lst⟩, _, rfl, p, _, _, rfl, rfl, L.lst, ?_, ?_⟩
            · rw [List.length_map]
              exact small1000 (by omega)
            · refine ⟨ks ++ [(t, r)], _, _, _, rfl, same_upd S np, L.more ht, fun k hk => ?_, ?_, fun q hq => ?_, ?_, by rw [upd_ne mp]; exact hm, by rw [upd_ne np1]; exact h1, by rw [upd_ne np2]; exact h2, fun e => ?_, fun e => ?_⟩
              · rcases List.mem_append.mp hk with hk | hk
                · exact fr k hk
                · have e : k = (t, r) := by simpa using hk
                  rw [e]
                  exact frt
              · show (List.map (·.2) (ks ++ [(t, r)])).Nodup
                rw [List.map_append]
                refine List.nodup_append.mpr ⟨hn, by simp, fun x hx y hy e => ?_⟩
                have ey : y = r := by simpa using hy
                exact hni (by rw [← ey, ← e]; exact hx)
              · have : q ∈ List.map (·.2) (ks ++ [(t, r)]) := hq
                rw [List.map_append] at this
                rcases List.mem_append.mp this with z | z
                · exact ho q z
                · have ey : q = r := by simpa using z
                  rw [ey]
                  exact hrk
              · right
                rw [List.length_append]
                show ks.length + 1 ≤ 2
                omega
              · rcases hcase with ⟨_, er⟩ | ⟨e2, _⟩
                · by_cases h0 : ks.length = 0
                  · right
                    have : ks = [] := List.length_eq_zero_iff.mp h0
                    rw [this, er]
                    rfl
                  · left
                    rw [List.length_append]
                    show 2 ≤ ks.length + 1
                    omega
                · omega
              · rcases hcase with ⟨e2, _⟩ | ⟨e2, er⟩
                · omega
                · rw [List.length_append]
                  show 2 ≤ ks.length + 1
                  rcases hi1 e2 with h | h
                  · omega
                  · have : (ptsOf ks).length = ks.length := List.length_map _
                    rw [h] at this
                    simp only [List.length_cons, List.length_nil] at this
                    omega
          · have hin : r ∈ ptsOf ks := by
              by_cases z : r ∈ ptsOf ks
              · exact z
              · rw [decide_eq_false z] at hc
                exact absurd rfl hc
            obtain ⟨s1, s2⟩ := stay (.inr hin)
            exact ⟨ks, _, _, _, rfl, S, L, fr, hn, ho, hl, hm, h1, h2, s1, s2⟩
        · have hge : 2 ≤ ks.length := by
            by_cases z : ks.length < 2
            · refine absurd (decide_eq_true ?_) hc
              rw [List.length_map]
              omega
            · omega
          obtain ⟨s1, s2⟩ := stay (.inl hge)
          exact ⟨ks, _, _, _, rfl, S, L, fr, hn, ho, hl, hm, h1, h2, s1, s2⟩
      · rintro σ H4 ⟨ks, u, v, z, rfl, S, L, fr, hn, ho, hl, hm, h1, h2, hi1, hi2⟩
        refine ⟨_, rfl, ?_⟩
        exact q H4 p ks S np L fr ⟨hn, ho, by rw [show (ptsOf ks).length = ks.length from List.length_map _]; exact hi2 rfl⟩ hl
/-! _law_marks_of -/
theorem sc__law_marks_of : FnScope ["e", "marks"] ["e"] (defScope s__law_marks_of) := ⟨rfl, rfl, rfl, by decide +kernel, rfl, by decide +kernel, by decide +kernel⟩
theorem ok__law_marks_of {S1 S2 S3 : Addr} (D : Df K mg "_law_marks_of" s__law_marks_of ["e"]) (B : Bl mg) (E1 : Ec K mg "SamePoint" S1) (E2 : Ec K mg "BadPoints" S2) (E3 : Ec K mg "BadText" S3) (mV : mg "ValueError" = none) : FnE P w K mg base 1 D.f D.fd ["e"] (spMk K S1 S2 S3) := by
  refine okE D.F sc__law_marks_of (fun z vs H Q E h => ?_) (fun cdv A out s H vs Q E z hr h => ?_)
  · obtain ⟨D', b1, b2, b3, rfl, _⟩ := h
    rfl
  · obtain ⟨D', b1, b2, b3, rfl, hz, hf, ec, k1, k2, k3, kv, q⟩ := h
    have nd := sc__law_marks_of.nd
    have hp : (z.1, z.2) ∈ (L2H.cxH CX0 P w K mg base ["e", "marks"] "_law_marks_of" (defScope s__law_marks_of) D.f cdv A out s H E z).pn := List.mem_cons_self
    refine ⟨_, pss_cons (pset 1 nd (pe_lst (pa_cons (pe_callB (r := rIsE K D' z.1) (call_isP ec hp hz hf) (by rfl) B.isinstance boot_isinstance (pa_cons (pv 0) (pa_cons (pe_glob (v := .ref S1) rfl E1.g rfl) pa_nil)))
        (pa_cons (pe_callB (r := rIsE K D' z.1) (call_isP ec hp hz hf) (by rfl) B.isinstance boot_isinstance (pa_cons (pv 0) (pa_cons (pe_glob (v := .ref S2) rfl E2.g rfl) pa_nil)))
        (pa_cons (pe_callB (r := rIsE K D' z.1) (call_isP ec hp hz hf) (by rfl) B.isinstance boot_isinstance (pa_cons (pv 0) (pa_cons (pe_glob (v := .ref S3) rfl E3.g rfl) pa_nil))) pa_nil)))))
      (pss_one (ps_ret (pe_op op_cat (pv 1) (pe_lst (pa_cons (pe_not (pe_callB (r := rIsE K D' z.1) (call_isP ec hp hz hf) (by rfl) B.isinstance boot_isinstance (pa_cons (pv 0) (pa_cons (pe_bltn (v := .ty "ValueError") (by rfl) mV (by decide +kernel) rfl) pa_nil)))) pa_nil))))), ?_⟩
    refine ⟨_, rfl, _, _, b1, rfl, (fun u h => h), k1, ?_⟩
    refine ⟨_, rfl, _, _, b2, rfl, (fun u h => h), k2, ?_⟩
    refine ⟨_, rfl, _, _, b3, rfl, (fun u h => h), k3, ?_⟩
    refine ⟨(by show 3 ≤ sizeLine; decide), fun m nm => ?_⟩
    have S1' := same_new (o := .lst [V.bl b1, V.bl b2, V.bl b3]) nm
    refine ⟨_, rfl, ?_⟩
    refine ⟨_, rfl, _, _, true, rfl, (fun u h => h), kv, true, rfl, ?_⟩
    refine ⟨(by show 1 ≤ sizeLine; decide), fun n nn' => ?_⟩
    have S2' := same_new (o := .lst [V.bl (!true)]) nn'
    refine ⟨m, n, _, _, rfl, rfl, S2' _ _ upd_same, upd_same, (by show 4 ≤ sizeLine; decide), fun r nr => ?_⟩
    exact q _ r (S1'.trans (S2'.trans (same_new nr))) (S1'.free (S2'.free nr)) upd_same
/-! line_of, of one point twice -/
def spTwice (K : PySem.W.Frag) (S1 : Addr) : Sp := fun vs H _ E => ∃ (v u : V) (p : P2), vs = [v, u] ∧ Pt K H v p ∧ Pt K H u p ∧ E (.ref S1) none H
theorem okX_line_of {S1 : Addr} (D : Df K mg "line_of" s_line_of ["one", "other"]) (E1 : Ec K mg "SamePoint" S1) : FnOk P w K mg base (L2.CX P w) 2 D.f D.fd ["one", "other"] (spTwice K S1) := by
  refine D.F.okX sc_line_of (fun vs H Q E h => ?_) (fun cdv A outer s H vs Q E hr h => ?_)
  · obtain ⟨v, u, p, rfl, _⟩ := h
    rfl
  · obtain ⟨_, _, p, rfl, ⟨i, rfl, hi⟩, ⟨j, rfl, hj⟩, q⟩ := h
    have nd := sc_line_of.nd
    refine ⟨_, pss_cons (pset 2 nd (pe_op op_sub (pe_ix ix_tup (pv 1) pe_int (fun _ _ => rfl)) (pe_ix ix_tup (pv 0) pe_int (fun _ _ => rfl))))
      (pss_cons (pset 3 nd (pe_op op_sub (pe_ix ix_tup (pv 0) pe_int (fun _ _ => rfl)) (pe_ix ix_tup (pv 1) pe_int (fun _ _ => rfl))))
      (pss_cons (ps_if (PW.pt (pw_and (pt_cmpR op_eq (pv 2) pe_int (nomark _)) (pw_and1 (pt_cmpR op_eq (pv 3) pe_int (nomark _))))) (pss_one (ps_raise rfl (takes_of rfl rfl rfl rfl) E1.make)) pss_nil)
      (pss_cons ps_never
      (pss_cons ps_never
      (pss_cons ps_never
      (pss_one ps_never)))))), ?_⟩
    refine ⟨_, rfl, _, _, _, _, rfl, rfl, hj, at1, _, rfl, _, _, _, _, rfl, rfl, hi, at1, _, _, rfl, rfl, ?_⟩
    refine ⟨_, rfl, _, _, _, _, rfl, rfl, hi, at0, _, rfl, _, _, _, _, rfl, rfl, hj, at0, _, _, rfl, rfl, ?_⟩
    refine ⟨_, rfl, rfl, _, rfl, ifT (decide_eq_true (by show V.int (p.2 - p.2) = V.int 0; rw [Int.sub_self])) ?_⟩
    exact ⟨_, rfl, rfl, _, rfl, ifT (decide_eq_true (by show V.int (p.1 - p.1) = V.int 0; rw [Int.sub_self])) q⟩
/-! _law_same -/
def spSameP (K : PySem.W.Frag) : Sp := fun vs H Q _ => ∃ (v : V) (p : P2), vs = [v] ∧ Pt K H v p ∧ ∀ H', Same H H' → Q (.bl true) H'
theorem sc__law_same : FnScope ["point", "marks", "e"] ["point"] (defScope s__law_same) := ⟨rfl, rfl, rfl, by decide +kernel, rfl, by decide +kernel, by decide +kernel⟩
theorem ok__law_same {S1 S2 S3 SL : Addr} (D : Df K mg "_law_same" s__law_same ["point"]) (E1 : Ec K mg "SamePoint" S1) (E2 : Ec K mg "BadPoints" S2) (E3 : Ec K mg "BadText" S3) (EL : Ec K mg "LineError" SL) (Eg : Eg K)
    (h1L : PySem.W.subIn K (.ref S1) (.ref SL) = some true) (h12 : PySem.W.subIn K (.ref S1) (.ref S2) = some false) (h13 : PySem.W.subIn K (.ref S1) (.ref S3) = some false)
    (X_line_of : Fn P w K mg base (L2.CX P w) 2 "line_of" ["one", "other"] (spTwice K S1)) (M : Fe P w K mg base 1 "_law_marks_of" ["e"] (spMk K S1 S2 S3)) : FnOk P w K mg base CX0 3 D.f D.fd ["point"] (spSameP K) := by
  refine D.F.ok sc__law_same (fun vs H Q E h => ?_) (fun cdv A outer s H vs Q E hr h => ?_)
  · obtain ⟨v, p, rfl, _⟩ := h
    rfl
  · obtain ⟨v, p, rfl, hp, q⟩ := h
    have nd := sc__law_same.nd
    refine ⟨_, pss_cons (pset 1 nd (pe_lst pa_nil))
      (pss_cons (ps_try_as (i := 2) rfl rfl nd rfl rfl ⟨rfl, by decide, .inl EL.g⟩ takes0 (fun W pn xe tk _ => pss_one (ps_expr (pcallX X_line_of tk hr (pa_cons (pv 0) (pa_cons (pv 0) pa_nil)))))
        (fun a oe cls d pn hz hf => pss_one (pset 1 nd (pe_marks M hr hz hf (pv 2)))))
      (pss_one (ps_ret (pe_cmpR (op_eqD hr.units) (pv 1) (pe_lst (pa_cons pe_bl (pa_cons pe_bl (pa_cons pe_bl (pa_cons pe_bl pa_nil))))) (nomark _))))), ?_⟩
    refine ⟨(by show 0 ≤ sizeLine; decide), fun m nm => ?_⟩
    have S1' := same_new (o := .lst []) nm
    refine ⟨_, rfl, _, rfl, v, v, p, rfl, hp.same S1', hp.same S1', ?_⟩
    refine ⟨true, EL.exm h1L, fun _ a ha => ?_, fun z => nomatch z⟩
    refine ⟨_, rfl, rfl, S1, true, false, false, rfl, rfl, E1.c Eg, E1.kit E1.me, E2.kit h12, E3.kit h13, E1.kitV, fun H2 r S2' nr hr2 => ?_⟩
    refine ⟨_, rfl, (by show 4 ≤ sizeLine; decide), fun t nt => ?_⟩
    have S3' := same_new (o := .lst ([true, false, false, false].map V.bl)) nt
    refine ⟨blD [true, false, false, false], blD [true, false, false, false], bl_dp (S3' _ _ hr2), bl_dp upd_same, blD_shaped _, blD_shaped _, ?_⟩
    rw [blD_eqv, decide_eq_true rfl]
    exact q _ (S1'.trans (S2'.trans S3'))
/-! law -/
theorem third_on {p q : P2} (s : Int) (pq : p ≠ q) : On (lineOf p q) (p.1 + s * (q.1 - p.1), p.2 + s * (q.2 - p.2)) := by
  have h1 := on_left pq
  have h2 := on_right pq
  unfold On at h1 h2 ⊢
  dsimp only
  generalize lineOf p q = l at h1 h2 ⊢
  obtain ⟨a, b, c⟩ := l
  obtain ⟨x, y⟩ := p
  obtain ⟨u, v⟩ := q
  dsimp only at *
  grind
theorem sc_law : FnScope ["script", "points", "one", "other", "due", "steps", "third", "point"] ["script"] (defScope s_law) := ⟨rfl, rfl, rfl, by decide +kernel, rfl, by decide +kernel, by decide +kernel⟩
theorem ok_law (D : Df K mg "law" s_law ["script"]) (B : Bl mg) (C__law_cell_at : Fn P w K mg base CX0 1 "_law_cell_at" ["script", "k"] (spCell K)) (C__law_points_by : Fn P w K mg base CX0 2 "_law_points_by" ["script", "start", "count", "way"] (spPointsBy K))
    (C__law_line : Fn P w K mg base CX0 2 "_law_line" ["one", "other"] (spLine K)) (C_line_of : Fn P w K mg base CX0 2 "line_of" ["one", "other"] (spLine K)) (C__law_is_tuple : Fn P w K mg base CX0 2 "_law_is_tuple" ["found", "due"] (spIsT K))
    (C__law_same : Fn P w K mg base CX0 3 "_law_same" ["point"] (spSameP K)) : FnOk P w K mg base CX0 5 D.f D.fd ["script"] (spLaw K) := by
  refine D.F.ok sc_law (fun vs H Q E h => ?_) (fun cdv A outer s H vs Q E hr h => ?_)
  · obtain ⟨a, ns, rfl, _⟩ := h
    rfl
  · obtain ⟨a, ns, rfl, hS, _, q⟩ := h
    have nd := sc_law.nd
    have l2 : 2 ≤ sizeLine := by decide
    refine ⟨_, pss_cons (pset 1 nd (pcall C__law_points_by hr (pa_cons (pv 0) (pa_cons pe_int (pa_cons pe_int (pa_cons (pe_op op_mod (pcall C__law_cell_at hr (pa_cons (pv 0) (pa_cons pe_int pa_nil))) pe_int) pa_nil))))))
      (pss_cons (pset 2 nd (pe_ix ix_list (pv 1) pe_int (fun _ _ => rfl)))
      (pss_cons (pset 3 nd (pe_ix ix_list (pv 1) pe_int (fun _ _ => rfl)))
      (pss_cons (pset 4 nd (pcall C__law_line hr (pa_cons (pv 2) (pa_cons (pv 3) pa_nil))))
      (pss_cons (ps_if (PW.pt (pw_or (pt_not (pt_val (pcall C__law_is_tuple hr (pa_cons (pcall C_line_of hr (pa_cons (pv 2) (pa_cons (pv 3) pa_nil))) (pa_cons (pv 4) pa_nil))))) (pw_or1 (pt_not (pt_val (pcall C__law_is_tuple hr (pa_cons (pcall C_line_of hr (pa_cons (pv 3) (pa_cons (pv 2) pa_nil))) (pa_cons (pv 4) pa_nil)))))))) (pss_one (ps_ret pe_bl)) pss_nil)
      (pss_cons (pset 5 nd (pe_op op_sub (pe_op op_mod (pcall C__law_cell_at hr (pa_cons (pv 0) (pa_cons pe_int pa_nil))) pe_int) pe_int))
      (pss_cons (pset 6 nd (pe_tup (pa_cons (pe_op op_add (pe_ix ix_tup (pv 2) pe_int (fun _ _ => rfl)) (pe_op op_mulW (pv 5) (pe_op op_sub (pe_ix ix_tup (pv 3) pe_int (fun _ _ => rfl)) (pe_ix ix_tup (pv 2) pe_int (fun _ _ => rfl))))) (pa_cons (pe_op op_add (pe_ix ix_tup (pv 2) pe_int (fun _ _ => rfl)) (pe_op op_mulW (pv 5) (pe_op op_sub (pe_ix ix_tup (pv 3) pe_int (fun _ _ => rfl)) (pe_ix ix_tup (pv 2) pe_int (fun _ _ => rfl))))) pa_nil))))
      (pss_cons (ps_if (PW.pt (pw_and (pt_cmpR op_le (pe_callB call_abs (by rfl) B.abs boot_abs (pa_cons (pe_ix ix_tup (pv 6) pe_int (fun _ _ => rfl)) pa_nil)) (pe_op op_pow pe_int pe_int) (nomark _)) (pw_and1 (pt_cmpR op_le (pe_callB call_abs (by rfl) B.abs boot_abs (pa_cons (pe_ix ix_tup (pv 6) pe_int (fun _ _ => rfl)) pa_nil)) (pe_op op_pow pe_int pe_int) (nomark _))))) (pss_one (ps_for PassesOwn.never rfl (pi_list (pv 1)) (pgn 7 nd) (pss_one (ps_if (PW.pt (pw_and (pt_cmpR (op_neD hr.units) (pv 7) (pv 6) (nomark _)) (pw_and1 (pt_not (pt_val (pcall C__law_is_tuple hr (pa_cons (pcall C_line_of hr (pa_cons (pv 6) (pa_cons (pv 7) pa_nil))) (pa_cons (pv 4) pa_nil)))))))) (pss_one (ps_ret pe_bl)) pss_nil)))) pss_nil)
      (pjoin (u := fun D' σ H' => ∃ (p t0 t1 : Addr) (x0 x1 : P2) (x y z u : Option V), σ = [some (.ref a), some (.ref p), some (.ref t0), some (.ref t1), x, y, z, u] ∧ H' t0 = some (.tup [.int x0.1, .int x0.2]) ∧ H' t1 = some (.tup [.int x1.1, .int x1.2]) ∧ ∀ H', D'.rt (.bl true) H')
      (pss_one (ps_ret (pe_and (pcall C__law_same hr (pa_cons (pv 2) pa_nil)) (pe_one (pcall C__law_same hr (pa_cons (pv 3) pa_nil)))))) ?_)))))))), ?_⟩
    · rintro D' σ H1 ⟨p, t0, t1, x0, x1, x, y, z, u, rfl, h0, h1, q'⟩
      refine ⟨_, rfl, _, x0, rfl, pt0 h0, fun H2 S2 => ?_⟩
      refine ⟨_, rfl, iteT ?_⟩
      exact ⟨_, rfl, _, x1, rfl, pt0 (S2 _ _ h1), fun H3 S3 => q' _⟩
    · refine ⟨_, rfl, _, rfl, a, ns, 0, rfl, hS, by omega, fun n => ?_⟩
      refine ⟨_, _, rfl, rfl, (by show (0 : Int) < _; decide), ?_⟩
      refine ⟨a, ns, 2, 2, _, rfl, hS, by omega, by omega, by omega, fun H1 p ks S np L fr pok hlen => ?_⟩
      have p2 := pok.two
      have hpl : (ptsOf ks).length = ks.length := List.length_map _
      obtain ⟨k0, k1, kr, rfl, n01, o0, o1⟩ := pts_two pok
      have ekr : kr = [] := by
        rw [List.length_cons, List.length_cons] at hlen
        cases kr with
        | nil => rfl
        | cons k kr =>
          rw [List.length_cons] at hlen
          omega
      subst ekr
      have h0 := L.tup k0 List.mem_cons_self
      have h1 := L.tup k1 (List.mem_cons_of_mem _ List.mem_cons_self)
      refine ⟨_, rfl, _, _, _, _, rfl, rfl, SqL.of L.lst, pts_at0, ?_⟩
      refine ⟨_, rfl, _, _, _, _, rfl, rfl, SqL.of L.lst, pts_at1, ?_⟩
      refine ⟨_, rfl, _, rfl, _, _, k0.2, k1.2, rfl, pt0 h0, pt0 h1, o0.b, o1.b, n01, fun d nd' => ?_⟩
      obtain ⟨l, el⟩ : ∃ l, l = lineOf k0.2 k1.2 := ⟨_, rfl⟩
      rw [← el]
      have S2 := same_new (o := .tup [V.int l.1, V.int l.2.1, V.int l.2.2]) nd'
      have hd : upd H1 d (.tup [V.int l.1, V.int l.2.1, V.int l.2.2]) d = some (.tup ([l.1, l.2.1, l.2.2].map V.int)) := upd_same
      generalize upd H1 d (.tup [V.int l.1, V.int l.2.1, V.int l.2.2]) = H2 at S2 hd ⊢
      -- either way round
      refine ⟨_, rfl, _, rfl, _, _, k0.2, k1.2, rfl, pt0 (S2 _ _ h0), pt0 (S2 _ _ h1), o0.b, o1.b, n01, fun f nf => ?_⟩
      rw [← el]
      have S3 := same_new (o := .tup [V.int l.1, V.int l.2.1, V.int l.2.2]) nf
      refine ⟨_, rfl, f, _, [l.1, l.2.1, l.2.2], [l.1, l.2.1, l.2.2], rfl, upd_same, ⟨d, rfl, SqT.of (S3 _ _ hd)⟩, true, by rw [decide_eq_true rfl], iteF ?_⟩
      have S23 := S2.trans S3
      refine ⟨_, rfl, _, rfl, _, _, k1.2, k0.2, rfl, pt0 (S23 _ _ h1), pt0 (S23 _ _ h0), o1.b, o0.b, fun e => n01 e.symm, fun g ng => ?_⟩
      rw [lineOf_comm n01, ← el]
      have S4 := same_new (o := .tup [V.int l.1, V.int l.2.1, V.int l.2.2]) ng
      refine ⟨_, rfl, g, _, [l.1, l.2.1, l.2.2], [l.1, l.2.1, l.2.2], rfl, upd_same, ⟨d, rfl, SqT.of (S4 _ _ (S3 _ _ hd))⟩, true, by rw [decide_eq_true rfl], iteF ?_⟩
      have S24 := S23.trans S4
      have hd4 := S4 _ _ (S3 _ _ hd)
      generalize upd (upd H2 f (.tup [V.int l.1, V.int l.2.1, V.int l.2.2])) g (.tup [V.int l.1, V.int l.2.1, V.int l.2.2]) = H4 at S24 hd4 ⊢
      -- the third
      refine ⟨_, rfl, a, ns, 1, rfl, (S.trans S24).seq hS, by omega, fun n2 => ?_⟩
      refine ⟨_, _, rfl, rfl, (by show (0 : Int) < _; decide), _, _, rfl, rfl, ?_⟩
      have bs : Bd 4 (n2 % 7 - 3) := by
        show (n2 % 7 - 3).natAbs < 16
        omega
      have h04 := S24 _ _ h0
      have h14 := S24 _ _ h1
      have bx : Bd 21 (k1.2.1 - k0.2.1) := o1.b.1.sub o0.b.1
      have by' : Bd 21 (k1.2.2 - k0.2.2) := o1.b.2.sub o0.b.2
      refine ⟨_, rfl, _, _, _, _, rfl, rfl, SqT.of h04, at0, _, rfl, _, rfl, _, _, _, _, rfl, rfl, SqT.of h14, at0, _, rfl, _, _, _, _, rfl, rfl, SqT.of h04, at0, _, _, rfl, rfl, _, _, rfl, rfl, bs.mulOk bx, _, _, rfl, rfl, ?_⟩
      refine ⟨_, rfl, _, _, _, _, rfl, rfl, SqT.of h04, at1, _, rfl, _, rfl, _, _, _, _, rfl, rfl, SqT.of h14, at1, _, rfl, _, _, _, _, rfl, rfl, SqT.of h04, at1, _, _, rfl, rfl, _, _, rfl, rfl, bs.mulOk by', _, _, rfl, rfl, l2, fun t nt => ?_⟩
      obtain ⟨x, ex⟩ : ∃ x : P2, x = (k0.2.1 + (n2 % 7 - 3) * (k1.2.1 - k0.2.1), k0.2.2 + (n2 % 7 - 3) * (k1.2.2 - k0.2.2)) := ⟨_, rfl⟩
      have onx : On l x := by rw [el, ex]; exact third_on _ n01
      have S5 := same_new (o := .tup [V.int (k0.2.1 + (n2 % 7 - 3) * (k1.2.1 - k0.2.1)), V.int (k0.2.2 + (n2 % 7 - 3) * (k1.2.2 - k0.2.2))]) nt
      have ht : upd H4 t (.tup [V.int (k0.2.1 + (n2 % 7 - 3) * (k1.2.1 - k0.2.1)), V.int (k0.2.2 + (n2 % 7 - 3) * (k1.2.2 - k0.2.2))]) t = some (.tup [V.int x.1, V.int x.2]) := by
        rw [ex]
        exact upd_same
      have hd5 := S5 _ _ hd4
      have S25 := S24.trans S5
      generalize upd H4 t (.tup [V.int (k0.2.1 + (n2 % 7 - 3) * (k1.2.1 - k0.2.1)), V.int (k0.2.2 + (n2 % 7 - 3) * (k1.2.2 - k0.2.2))]) = H5 at S25 ht hd5 ⊢
      have skip : ∃ (p' t0 t1 : Addr) (x0 x1 : P2) (xx y z u : Option V), [some (.ref a), some (.ref p), some (V.ref k0.1), some (.ref k1.1), some (.ref d), some (.int (n2 % 7 - 3)), some (.ref t), none] = [some (.ref a), some (.ref p'), some (.ref t0), some (.ref t1), xx, y, z, u] ∧ H5 t0 = some (.tup [.int x0.1, .int x0.2]) ∧ H5 t1 = some (.tup [.int x1.1, .int x1.2]) ∧ ∀ H', Q (.bl true) H' :=
        ⟨p, k0.1, k1.1, k0.2, k1.2, _, _, _, _, rfl, S25 _ _ h0, S25 _ _ h1, q⟩
      refine ⟨_, rfl, _, _, _, _, rfl, rfl, SqT.of ht, at0, _, rfl, _, _, rfl, rfl, cpow6, _, _, rfl, rfl, _, rfl, ite2 (fun hx => ?_) (fun _ => skip)⟩
      refine ⟨_, rfl, _, _, _, _, rfl, rfl, SqT.of ht, at1, _, rfl, _, _, rfl, rfl, cpow6, _, _, rfl, rfl, _, rfl, ite2 (fun hy => ?_) (fun _ => skip)⟩
      have e6 : (10 : Int) ^ (6 : Int).toNat = 1000000 := by decide
      have okx : PtB x := by
        have h1 := of_decide_eq_true hx
        have h2 := of_decide_eq_true hy
        constructor
        · show x.1.natAbs < 1048576
          split at h1 <;> omega
        · show x.2.natAbs < 1048576
          split at h2 <;> omega
      refine ⟨_, rfl, p, rfl, ⟨_, SqL.of (S25 _ _ L.lst)⟩, ?_⟩
      refine for_list (K := K) (a := p) (xs := [k0, k1].map fun k => V.ref k.1) (fun i σ H' => Same H5 H' ∧ ∃ z, σ = [some (.ref a), some (.ref p), some (.ref k0.1), some (.ref k1.1), some (.ref d), some (.int (n2 % 7 - 3)), some (.ref t), z]) ⟨Same.refl _, none, rfl⟩ (fun i σ H' _ ⟨S', _⟩ => SqL.of (S' _ _ (S25 _ _ L.lst))) ?_ ?_
      · rintro i y σ H6 hi ⟨S6, z, rfl⟩
        obtain ⟨k, hk, rfl⟩ := at_item hi
        have mk := List.mem_of_getElem? hk
        have okk := pok.ok k.2 (List.mem_map.mpr ⟨k, mk, rfl⟩)
        have onk : On l k.2 := by
          rw [el]
          rcases List.mem_cons.mp mk with e | mk
          · rw [e]; exact on_left n01
          · have e : k = k1 := by simpa using mk
            rw [e]; exact on_right n01
        have hk6 := S6 _ _ (S25 _ _ (L.tup k mk))
        have ht6 := S6 _ _ ht
        refine ⟨_, rfl, _, rfl, ptD k.2, ptD x, pt_dp (pt0 hk6), pt_dp (pt0 ht6), ptD_shaped _, ptD_shaped _, _, rfl, ?_⟩
        rw [ptD_eqv]
        by_cases ekx : k.2 = x
        · rw [decide_eq_true ekx]
          exact iteF ⟨S6, _, rfl⟩
        · rw [decide_eq_false ekx]
          refine iteT ?_
          refine ⟨_, rfl, _, rfl, _, _, x, k.2, rfl, pt0 ht6, pt0 hk6, okx, okk.b, fun e => ekx e.symm, fun g ng => ?_⟩
          have same : lineOf x k.2 = l := by
            rw [el] at onx onk ⊢
            exact lineOf_unique n01 (fun e => ekx e.symm) onx onk
          rw [same]
          have S7 := same_new (o := .tup [V.int l.1, V.int l.2.1, V.int l.2.2]) ng
          refine ⟨_, rfl, g, _, [l.1, l.2.1, l.2.2], [l.1, l.2.1, l.2.2], rfl, upd_same, ⟨d, rfl, SqT.of (S7 _ _ (S6 _ _ hd5))⟩, true, by rw [decide_eq_true rfl], iteF ?_⟩
          exact ⟨S6.trans S7, _, rfl⟩
      · rintro σ H6 ⟨S6, z, rfl⟩
        exact ⟨p, k0.1, k1.1, k0.2, k1.2, _, _, _, _, rfl, S6 _ _ (S25 _ _ h0), S6 _ _ (S25 _ _ h1), q⟩
end
theorem all_mk {l : PySem.W.OpenLaw} {w : World} {K : PySem.W.Frag} {h : Heap} {mg : Str → Option Value} {fa : Addr} (X : K.In h) (G : h.Ns mainGlobals mg) (hfa : mg "law" = some (.ref fa))
    {f1 : Addr} {od1 an1 : Option Addr} {sl1 : Array (Option Value)} {oc1 kV1 dc1 pm1 cd1 ct1 : Value} (a1 : PySem.W.nsIn K mainGlobals "common" = some (some (.ref f1)))
    (l1 : K.lookup f1 = some ⟨oc1, od1, .func (PySem.W.fnOf "common" "common" (defArgs s_common) (defBody s_common) (defScope s_common) .none kV1 dc1 pm1 an1 cd1 ct1), sl1⟩) (c1 : PySem.W.codeIn K cd1 "common" = true) (k1 : PySem.W.keepIn K (.ref f1) = true)
    {f2 : Addr} {od2 an2 : Option Addr} {sl2 : Array (Option Value)} {oc2 kV2 dc2 pm2 cd2 ct2 : Value} (a2 : PySem.W.nsIn K mainGlobals "line_of" = some (some (.ref f2)))
    (l2 : K.lookup f2 = some ⟨oc2, od2, .func (PySem.W.fnOf "line_of" "line_of" (defArgs s_line_of) (defBody s_line_of) (defScope s_line_of) .none kV2 dc2 pm2 an2 cd2 ct2), sl2⟩) (c2 : PySem.W.codeIn K cd2 "line_of" = true) (k2 : PySem.W.keepIn K (.ref f2) = true)
    {f3 : Addr} {od3 an3 : Option Addr} {sl3 : Array (Option Value)} {oc3 kV3 dc3 pm3 cd3 ct3 : Value} (a3 : PySem.W.nsIn K mainGlobals "_law_cell_at" = some (some (.ref f3)))
    (l3 : K.lookup f3 = some ⟨oc3, od3, .func (PySem.W.fnOf "_law_cell_at" "_law_cell_at" (defArgs s__law_cell_at) (defBody s__law_cell_at) (defScope s__law_cell_at) .none kV3 dc3 pm3 an3 cd3 ct3), sl3⟩) (c3 : PySem.W.codeIn K cd3 "_law_cell_at" = true) (k3 : PySem.W.keepIn K (.ref f3) = true)
    {f4 : Addr} {od4 an4 : Option Addr} {sl4 : Array (Option Value)} {oc4 kV4 dc4 pm4 cd4 ct4 : Value} (a4 : PySem.W.nsIn K mainGlobals "_law_whole" = some (some (.ref f4)))
    (l4 : K.lookup f4 = some ⟨oc4, od4, .func (PySem.W.fnOf "_law_whole" "_law_whole" (defArgs s__law_whole) (defBody s__law_whole) (defScope s__law_whole) .none kV4 dc4 pm4 an4 cd4 ct4), sl4⟩) (c4 : PySem.W.codeIn K cd4 "_law_whole" = true) (k4 : PySem.W.keepIn K (.ref f4) = true)
    {f5 : Addr} {od5 an5 : Option Addr} {sl5 : Array (Option Value)} {oc5 kV5 dc5 pm5 cd5 ct5 : Value} (a5 : PySem.W.nsIn K mainGlobals "_law_point_by" = some (some (.ref f5)))
    (l5 : K.lookup f5 = some ⟨oc5, od5, .func (PySem.W.fnOf "_law_point_by" "_law_point_by" (defArgs s__law_point_by) (defBody s__law_point_by) (defScope s__law_point_by) .none kV5 dc5 pm5 an5 cd5 ct5), sl5⟩) (c5 : PySem.W.codeIn K cd5 "_law_point_by" = true) (k5 : PySem.W.keepIn K (.ref f5) = true)
    {f6 : Addr} {od6 an6 : Option Addr} {sl6 : Array (Option Value)} {oc6 kV6 dc6 pm6 cd6 ct6 : Value} (a6 : PySem.W.nsIn K mainGlobals "_law_points_by" = some (some (.ref f6)))
    (l6 : K.lookup f6 = some ⟨oc6, od6, .func (PySem.W.fnOf "_law_points_by" "_law_points_by" (defArgs s__law_points_by) (defBody s__law_points_by) (defScope s__law_points_by) .none kV6 dc6 pm6 an6 cd6 ct6), sl6⟩) (c6 : PySem.W.codeIn K cd6 "_law_points_by" = true) (k6 : PySem.W.keepIn K (.ref f6) = true)
    {f7 : Addr} {od7 an7 : Option Addr} {sl7 : Array (Option Value)} {oc7 kV7 dc7 pm7 cd7 ct7 : Value} (a7 : PySem.W.nsIn K mainGlobals "_law_divisor" = some (some (.ref f7)))
    (l7 : K.lookup f7 = some ⟨oc7, od7, .func (PySem.W.fnOf "_law_divisor" "_law_divisor" (defArgs s__law_divisor) (defBody s__law_divisor) (defScope s__law_divisor) .none kV7 dc7 pm7 an7 cd7 ct7), sl7⟩) (c7 : PySem.W.codeIn K cd7 "_law_divisor" = true) (k7 : PySem.W.keepIn K (.ref f7) = true)
    {f8 : Addr} {od8 an8 : Option Addr} {sl8 : Array (Option Value)} {oc8 kV8 dc8 pm8 cd8 ct8 : Value} (a8 : PySem.W.nsIn K mainGlobals "_law_line" = some (some (.ref f8)))
    (l8 : K.lookup f8 = some ⟨oc8, od8, .func (PySem.W.fnOf "_law_line" "_law_line" (defArgs s__law_line) (defBody s__law_line) (defScope s__law_line) .none kV8 dc8 pm8 an8 cd8 ct8), sl8⟩) (c8 : PySem.W.codeIn K cd8 "_law_line" = true) (k8 : PySem.W.keepIn K (.ref f8) = true)
    {f9 : Addr} {od9 an9 : Option Addr} {sl9 : Array (Option Value)} {oc9 kV9 dc9 pm9 cd9 ct9 : Value} (a9 : PySem.W.nsIn K mainGlobals "_law_is_tuple" = some (some (.ref f9)))
    (l9 : K.lookup f9 = some ⟨oc9, od9, .func (PySem.W.fnOf "_law_is_tuple" "_law_is_tuple" (defArgs s__law_is_tuple) (defBody s__law_is_tuple) (defScope s__law_is_tuple) .none kV9 dc9 pm9 an9 cd9 ct9), sl9⟩) (c9 : PySem.W.codeIn K cd9 "_law_is_tuple" = true) (k9 : PySem.W.keepIn K (.ref f9) = true)
    {f10 : Addr} {od10 an10 : Option Addr} {sl10 : Array (Option Value)} {oc10 kV10 dc10 pm10 cd10 ct10 : Value} (a10 : PySem.W.nsIn K mainGlobals "_law_marks_of" = some (some (.ref f10)))
    (l10 : K.lookup f10 = some ⟨oc10, od10, .func (PySem.W.fnOf "_law_marks_of" "_law_marks_of" (defArgs s__law_marks_of) (defBody s__law_marks_of) (defScope s__law_marks_of) .none kV10 dc10 pm10 an10 cd10 ct10), sl10⟩) (c10 : PySem.W.codeIn K cd10 "_law_marks_of" = true) (k10 : PySem.W.keepIn K (.ref f10) = true)
    {f11 : Addr} {od11 an11 : Option Addr} {sl11 : Array (Option Value)} {oc11 kV11 dc11 pm11 cd11 ct11 : Value} (a11 : PySem.W.nsIn K mainGlobals "_law_same" = some (some (.ref f11)))
    (l11 : K.lookup f11 = some ⟨oc11, od11, .func (PySem.W.fnOf "_law_same" "_law_same" (defArgs s__law_same) (defBody s__law_same) (defScope s__law_same) .none kV11 dc11 pm11 an11 cd11 ct11), sl11⟩) (c11 : PySem.W.codeIn K cd11 "_law_same" = true) (k11 : PySem.W.keepIn K (.ref f11) = true)
    {f12 : Addr} {od12 an12 : Option Addr} {sl12 : Array (Option Value)} {oc12 kV12 dc12 pm12 cd12 ct12 : Value} (a12 : PySem.W.nsIn K mainGlobals "law" = some (some (.ref f12)))
    (l12 : K.lookup f12 = some ⟨oc12, od12, .func (PySem.W.fnOf "law" "law" (defArgs s_law) (defBody s_law) (defScope s_law) .none kV12 dc12 pm12 an12 cd12 ct12), sl12⟩) (c12 : PySem.W.codeIn K cd12 "law" = true) (k12 : PySem.W.keepIn K (.ref f12) = true)
    (zlen : PySem.W.nsIn K mainGlobals "len" = some none)
    (zabs : PySem.W.nsIn K mainGlobals "abs" = some none)
    (zrange : PySem.W.nsIn K mainGlobals "range" = some none)
    (zisinstance : PySem.W.nsIn K mainGlobals "isinstance" = some none)
    (zsorted : PySem.W.nsIn K mainGlobals "sorted" = some none)
    (zlist : PySem.W.nsIn K mainGlobals "list" = some none)
    (zset : PySem.W.nsIn K mainGlobals "set" = some none)
    (zint : PySem.W.nsIn K mainGlobals "int" = some none)
    (zstr : PySem.W.nsIn K mainGlobals "str" = some none)
    (zmax : PySem.W.nsIn K mainGlobals "max" = some none)
    (ztuple : PySem.W.nsIn K mainGlobals "tuple" = some none)
    (zbool : PySem.W.nsIn K mainGlobals "bool" = some none)
    {S1 : Addr}
    (g1 : PySem.W.nsIn K mainGlobals "SamePoint" = some (some (.ref S1)))
    (x1 : PySem.W.excIn K S1 [.type "ValueError", .type "Exception", .type "BaseException", .type "object"] "ValueError.__new__" = true)
    (k_1 : PySem.W.keepIn K (.ref S1) = true)
    (b1 : PySem.W.subIn K (.ref S1) (.type "BaseException") = some true)
    (v1 : PySem.W.subIn K (.ref S1) (.type "ValueError") = some true)
    (m1 : PySem.W.subIn K (.ref S1) (.ref S1) = some true)
    (t1 : PySem.W.typeIn K (.ref S1) = some (.type "type"))
    (l_1 : PySem.W.isClsIn K S1 = true)
    (d1 : PySem.W.hasDictIn K S1 = true)
    (p1 : PySem.W.findIn K (.ref S1) "__getattribute__" = some (some (.builtin "BaseException.__getattribute__")))
    (q1 : PySem.W.findIn K (.ref S1) "__getattr__" = some none)
    (r1 : PySem.W.findIn K (.ref S1) "__class__" = some (some (.builtin "object.__class__")))
    (o1 : PySem.W.mroIn K S1 (.type "object") = some true)
    {S2 : Addr}
    (g2 : PySem.W.nsIn K mainGlobals "BadPoints" = some (some (.ref S2)))
    (x2 : PySem.W.excIn K S2 [.type "ValueError", .type "Exception", .type "BaseException", .type "object"] "ValueError.__new__" = true)
    (k_2 : PySem.W.keepIn K (.ref S2) = true)
    (b2 : PySem.W.subIn K (.ref S2) (.type "BaseException") = some true)
    (v2 : PySem.W.subIn K (.ref S2) (.type "ValueError") = some true)
    (m2 : PySem.W.subIn K (.ref S2) (.ref S2) = some true)
    (t2 : PySem.W.typeIn K (.ref S2) = some (.type "type"))
    (l_2 : PySem.W.isClsIn K S2 = true)
    (d2 : PySem.W.hasDictIn K S2 = true)
    (p2 : PySem.W.findIn K (.ref S2) "__getattribute__" = some (some (.builtin "BaseException.__getattribute__")))
    (q2 : PySem.W.findIn K (.ref S2) "__getattr__" = some none)
    (r2 : PySem.W.findIn K (.ref S2) "__class__" = some (some (.builtin "object.__class__")))
    (o2 : PySem.W.mroIn K S2 (.type "object") = some true)
    {S3 : Addr}
    (g3 : PySem.W.nsIn K mainGlobals "BadText" = some (some (.ref S3)))
    (x3 : PySem.W.excIn K S3 [.type "ValueError", .type "Exception", .type "BaseException", .type "object"] "ValueError.__new__" = true)
    (k_3 : PySem.W.keepIn K (.ref S3) = true)
    (b3 : PySem.W.subIn K (.ref S3) (.type "BaseException") = some true)
    (v3 : PySem.W.subIn K (.ref S3) (.type "ValueError") = some true)
    (m3 : PySem.W.subIn K (.ref S3) (.ref S3) = some true)
    (t3 : PySem.W.typeIn K (.ref S3) = some (.type "type"))
    (l_3 : PySem.W.isClsIn K S3 = true)
    (d3 : PySem.W.hasDictIn K S3 = true)
    (p3 : PySem.W.findIn K (.ref S3) "__getattribute__" = some (some (.builtin "BaseException.__getattribute__")))
    (q3 : PySem.W.findIn K (.ref S3) "__getattr__" = some none)
    (r3 : PySem.W.findIn K (.ref S3) "__class__" = some (some (.builtin "object.__class__")))
    (o3 : PySem.W.mroIn K S3 (.type "object") = some true)
    {SL : Addr}
    (gL : PySem.W.nsIn K mainGlobals "LineError" = some (some (.ref SL)))
    (xL : PySem.W.excIn K SL [.type "ValueError", .type "Exception", .type "BaseException", .type "object"] "ValueError.__new__" = true)
    (k_L : PySem.W.keepIn K (.ref SL) = true)
    (bL : PySem.W.subIn K (.ref SL) (.type "BaseException") = some true)
    (vL : PySem.W.subIn K (.ref SL) (.type "ValueError") = some true)
    (mL : PySem.W.subIn K (.ref SL) (.ref SL) = some true)
    (tL : PySem.W.typeIn K (.ref SL) = some (.type "type"))
    (l_L : PySem.W.isClsIn K SL = true)
    (dL : PySem.W.hasDictIn K SL = true)
    (pL : PySem.W.findIn K (.ref SL) "__getattribute__" = some (some (.builtin "BaseException.__getattribute__")))
    (qL : PySem.W.findIn K (.ref SL) "__getattr__" = some none)
    (rL : PySem.W.findIn K (.ref SL) "__class__" = some (some (.builtin "object.__class__")))
    (oL : PySem.W.mroIn K SL (.type "object") = some true)
    (h1L : PySem.W.subIn K (.ref S1) (.ref SL) = some true)
    (h12 : PySem.W.subIn K (.ref S1) (.ref S2) = some false)
    (h13 : PySem.W.subIn K (.ref S1) (.ref S3) = some false)
    (hsp : PySem.W.specialIn K (.builtin "object.__class__") "__get__" = some (some (.builtin "getset_descriptor.__get__")))
    (htk : PySem.W.takesIn K (.builtin "object.__class__") = some true)
    (zVE : PySem.W.nsIn K mainGlobals "ValueError" = some none) :
    ∃ fd : FuncData, (∀ (s : Shared) (v : Value), BindsTo s fd ⟨[v], []⟩ [("script", v)]) ∧ ∀ base : Heap, K.In base → base.Ns mainGlobals mg → FnOk l.prog w K mg base CX0 5 fa fd ["script"] (spLaw K) := by
  have e := hfa.symm.trans (PySem.W.mg_of X G a12)
  cases e
  let D_common : Df K mg "common" s_common ["one", "other"] := ⟨_, _, fun_mk (st := s_common) l1 c1 k1, PySem.W.mg_of X G a1, (fun_mk (st := s_common) l1 c1 k1).binds (ps := ["one", "other"]) fun _ _ _ _ _ _ us hl => match us, hl with | [_, _], _ => rfl⟩
  let D_line_of : Df K mg "line_of" s_line_of ["one", "other"] := ⟨_, _, fun_mk (st := s_line_of) l2 c2 k2, PySem.W.mg_of X G a2, (fun_mk (st := s_line_of) l2 c2 k2).binds (ps := ["one", "other"]) fun _ _ _ _ _ _ us hl => match us, hl with | [_, _], _ => rfl⟩
  let D__law_cell_at : Df K mg "_law_cell_at" s__law_cell_at ["script", "k"] := ⟨_, _, fun_mk (st := s__law_cell_at) l3 c3 k3, PySem.W.mg_of X G a3, (fun_mk (st := s__law_cell_at) l3 c3 k3).binds (ps := ["script", "k"]) fun _ _ _ _ _ _ us hl => match us, hl with | [_, _], _ => rfl⟩
  let D__law_whole : Df K mg "_law_whole" s__law_whole ["found"] := ⟨_, _, fun_mk (st := s__law_whole) l4 c4 k4, PySem.W.mg_of X G a4, (fun_mk (st := s__law_whole) l4 c4 k4).binds (ps := ["found"]) fun _ _ _ _ _ _ us hl => match us, hl with | [_], _ => rfl⟩
  let D__law_point_by : Df K mg "_law_point_by" s__law_point_by ["one", "two", "way"] := ⟨_, _, fun_mk (st := s__law_point_by) l5 c5 k5, PySem.W.mg_of X G a5, (fun_mk (st := s__law_point_by) l5 c5 k5).binds (ps := ["one", "two", "way"]) fun _ _ _ _ _ _ us hl => match us, hl with | [_, _, _], _ => rfl⟩
  let D__law_points_by : Df K mg "_law_points_by" s__law_points_by ["script", "start", "count", "way"] := ⟨_, _, fun_mk (st := s__law_points_by) l6 c6 k6, PySem.W.mg_of X G a6, (fun_mk (st := s__law_points_by) l6 c6 k6).binds (ps := ["script", "start", "count", "way"]) fun _ _ _ _ _ _ us hl => match us, hl with | [_, _, _, _], _ => rfl⟩
  let D__law_divisor : Df K mg "_law_divisor" s__law_divisor ["a", "b"] := ⟨_, _, fun_mk (st := s__law_divisor) l7 c7 k7, PySem.W.mg_of X G a7, (fun_mk (st := s__law_divisor) l7 c7 k7).binds (ps := ["a", "b"]) fun _ _ _ _ _ _ us hl => match us, hl with | [_, _], _ => rfl⟩
  let D__law_line : Df K mg "_law_line" s__law_line ["one", "other"] := ⟨_, _, fun_mk (st := s__law_line) l8 c8 k8, PySem.W.mg_of X G a8, (fun_mk (st := s__law_line) l8 c8 k8).binds (ps := ["one", "other"]) fun _ _ _ _ _ _ us hl => match us, hl with | [_, _], _ => rfl⟩
  let D__law_is_tuple : Df K mg "_law_is_tuple" s__law_is_tuple ["found", "due"] := ⟨_, _, fun_mk (st := s__law_is_tuple) l9 c9 k9, PySem.W.mg_of X G a9, (fun_mk (st := s__law_is_tuple) l9 c9 k9).binds (ps := ["found", "due"]) fun _ _ _ _ _ _ us hl => match us, hl with | [_, _], _ => rfl⟩
  let D__law_marks_of : Df K mg "_law_marks_of" s__law_marks_of ["e"] := ⟨_, _, fun_mk (st := s__law_marks_of) l10 c10 k10, PySem.W.mg_of X G a10, (fun_mk (st := s__law_marks_of) l10 c10 k10).binds (ps := ["e"]) fun _ _ _ _ _ _ us hl => match us, hl with | [_], _ => rfl⟩
  let D__law_same : Df K mg "_law_same" s__law_same ["point"] := ⟨_, _, fun_mk (st := s__law_same) l11 c11 k11, PySem.W.mg_of X G a11, (fun_mk (st := s__law_same) l11 c11 k11).binds (ps := ["point"]) fun _ _ _ _ _ _ us hl => match us, hl with | [_], _ => rfl⟩
  let D_law : Df K mg "law" s_law ["script"] := ⟨_, _, fun_mk (st := s_law) l12 c12 k12, PySem.W.mg_of X G a12, (fun_mk (st := s_law) l12 c12 k12).binds (ps := ["script"]) fun _ _ _ _ _ _ us hl => match us, hl with | [_], _ => rfl⟩
  have B : Bl mg := ⟨PySem.W.mg_none_of X G zlen, PySem.W.mg_none_of X G zabs, PySem.W.mg_none_of X G zrange, PySem.W.mg_none_of X G zisinstance, PySem.W.mg_none_of X G zsorted, PySem.W.mg_none_of X G zlist, PySem.W.mg_none_of X G zset, PySem.W.mg_none_of X G zint, PySem.W.mg_none_of X G zstr, PySem.W.mg_none_of X G zmax, PySem.W.mg_none_of X G ztuple, PySem.W.mg_none_of X G zbool⟩
  have E1 : Ec K mg "SamePoint" S1 := ⟨PySem.W.mg_of X G g1, x1, k_1, b1, v1, m1, t1, l_1, d1, p1, q1, r1, o1⟩
  have E2 : Ec K mg "BadPoints" S2 := ⟨PySem.W.mg_of X G g2, x2, k_2, b2, v2, m2, t2, l_2, d2, p2, q2, r2, o2⟩
  have E3 : Ec K mg "BadText" S3 := ⟨PySem.W.mg_of X G g3, x3, k_3, b3, v3, m3, t3, l_3, d3, p3, q3, r3, o3⟩
  have EL : Ec K mg "LineError" SL := ⟨PySem.W.mg_of X G gL, xL, k_L, bL, vL, mL, tL, l_L, dL, pL, qL, rL, oL⟩
  have Eg : Eg K := ⟨hsp, htk⟩
  have mV := PySem.W.mg_none_of X G zVE
  refine ⟨D_law.fd, fun s v => .of_eq rfl, fun base _ _ => ?_⟩
  let C_common := D_common.fn (P := l.prog) (w := w) (base := base) (ok_common D_common B)
  let X_line_of := D_line_of.fn (P := l.prog) (w := w) (base := base) (CX := (L2.CX l.prog w)) (okX_line_of D_line_of E1)
  let C_line_of := D_line_of.fn (P := l.prog) (w := w) (base := base) (ok_line_of D_line_of C_common)
  let C__law_cell_at := D__law_cell_at.fn (P := l.prog) (w := w) (base := base) (ok__law_cell_at D__law_cell_at B)
  let C__law_whole := D__law_whole.fn (P := l.prog) (w := w) (base := base) (ok__law_whole D__law_whole B)
  let C__law_point_by := D__law_point_by.fn (P := l.prog) (w := w) (base := base) (ok__law_point_by D__law_point_by)
  let C__law_points_by := D__law_points_by.fn (P := l.prog) (w := w) (base := base) (ok__law_points_by D__law_points_by B C__law_cell_at C__law_point_by)
  let C__law_divisor := D__law_divisor.fn (P := l.prog) (w := w) (base := base) (ok__law_divisor D__law_divisor B)
  let C__law_line := D__law_line.fn (P := l.prog) (w := w) (base := base) (ok__law_line D__law_line C__law_divisor)
  let C__law_is_tuple := D__law_is_tuple.fn (P := l.prog) (w := w) (base := base) (ok__law_is_tuple D__law_is_tuple B C__law_whole)
  let M__law_marks_of := D__law_marks_of.fe (P := l.prog) (w := w) (base := base) (ok__law_marks_of D__law_marks_of B E1 E2 E3 mV)
  let C__law_same := D__law_same.fn (P := l.prog) (w := w) (base := base) (ok__law_same D__law_same E1 E2 E3 EL Eg h1L h12 h13 X_line_of M__law_marks_of)
  exact ok_law D_law B C__law_cell_at C__law_points_by C__law_line C_line_of C__law_is_tuple C__law_same
theorem walk {l : PySem.W.OpenLaw} {q : Program} {loose : List Str} {XP : (Str → Option Value) → Heap → Prop} {YP : World → Heap → Prop} {d : DefRec} {K : Params → PySem.W.Frag} (hn : l.most = some 63) (hdf : d.params.defaults = [])
    (hY : ∀ (w : World) (h : Heap), YP w h → (K w.params).In h)
    (F : ∀ (w : World) (mg : Str → Option Value) (fa : Addr) (h : Heap), (K w.params).In h → h.Ns mainGlobals mg → mg d.name = some (.ref fa) →
      ∃ fd : FuncData, (∀ (s : Shared) (u : Value), BindsTo s fd ⟨[u], []⟩ [("script", u)]) ∧ ∀ base : Heap, (K w.params).In base → base.Ns mainGlobals mg → FnOk l.prog w (K w.params) mg base CX0 5 fa fd ["script"] (spLaw (K w.params))) :
    PySem.W.WalkO q loose XP YP l.row.toRowW d [] (fun f vs => PySem.call f vs) :=
  L2.walk_of (n := 63) (k := 5) (x := "script") (CX := fun _ => CX0) (sp := fun w => spLaw (K w.params)) hn (by decide) hdf ⟨rfl, by decide, by decide⟩ hY F (fun _ _ a ns hl _ hS => ⟨a, ns, rfl, hS, hl, fun _ => rfl⟩) fun _ _ _ _ _ z => z
end Tw
open PySem PySem.W PyProof.Rows in
set_option maxRecDepth 100000 in
set_option maxHeartbeats 0 in
theorem PySem.Challenge.cw_twoline_k01_lines_through_two_points_holds : PySem.Challenge.rw_twoline_k01_lines_through_two_points.Holds := by
  w_on; o_law; k_head; (case hw => w_witness2)
  k_fill
  refine Tw.walk (l := PySem.Challenge.rw_twoline_k01_lines_through_two_points) rfl rfl (fun w h Y => PySem.W.kIn_of Y) ?F
  case F =>
    intro w mg fa h KX G hmg
    refine' Tw.all_mk KX G hmg ?a1 ?l1 ?c1 ?k1 ?a2 ?l2 ?c2 ?k2 ?a3 ?l3 ?c3 ?k3 ?a4 ?l4 ?c4 ?k4 ?a5 ?l5 ?c5 ?k5 ?a6 ?l6 ?c6 ?k6 ?a7 ?l7 ?c7 ?k7 ?a8 ?l8 ?c8 ?k8 ?a9 ?l9 ?c9 ?k9 ?a10 ?l10 ?c10 ?k10 ?a11 ?l11 ?c11 ?k11 ?a12 ?l12 ?c12 ?k12 ?zlen ?zabs ?zrange ?zisinstance ?zsorted ?zlist ?zset ?zint ?zstr ?zmax ?ztuple ?zbool ?g1 ?x1 ?k_1 ?b1 ?v1 ?m1 ?t1 ?l_1 ?d1 ?p1 ?q1 ?r1 ?o1 ?g2 ?x2 ?k_2 ?b2 ?v2 ?m2 ?t2 ?l_2 ?d2 ?p2 ?q2 ?r2 ?o2 ?g3 ?x3 ?k_3 ?b3 ?v3 ?m3 ?t3 ?l_3 ?d3 ?p3 ?q3 ?r3 ?o3 ?gL ?xL ?k_L ?bL ?vL ?mL ?tL ?l_L ?dL ?pL ?qL ?rL ?oL ?h1L ?h12 ?h13 ?hsp ?htk ?zVE
    (case a1 => k_is)
    (case l1 => k_is)
    (case c1 => k_is)
    (case k1 => k_is)
    (case a2 => k_is)
    (case l2 => k_is)
    (case c2 => k_is)
    (case k2 => k_is)
    (case a3 => k_is)
    (case l3 => k_is)
    (case c3 => k_is)
    (case k3 => k_is)
    (case a4 => k_is)
    (case l4 => k_is)
    (case c4 => k_is)
    (case k4 => k_is)
    (case a5 => k_is)
    (case l5 => k_is)
    (case c5 => k_is)
    (case k5 => k_is)
    (case a6 => k_is)
    (case l6 => k_is)
    (case c6 => k_is)
    (case k6 => k_is)
    (case a7 => k_is)
    (case l7 => k_is)
    (case c7 => k_is)
    (case k7 => k_is)
    (case a8 => k_is)
    (case l8 => k_is)
    (case c8 => k_is)
    (case k8 => k_is)
    (case a9 => k_is)
    (case l9 => k_is)
    (case c9 => k_is)
    (case k9 => k_is)
    (case a10 => k_is)
    (case l10 => k_is)
    (case c10 => k_is)
    (case k10 => k_is)
    (case a11 => k_is)
    (case l11 => k_is)
    (case c11 => k_is)
    (case k11 => k_is)
    (case a12 => k_is)
    (case l12 => k_is)
    (case c12 => k_is)
    (case k12 => k_is)
    (case zlen => k_is)
    (case zabs => k_is)
    (case zrange => k_is)
    (case zisinstance => k_is)
    (case zsorted => k_is)
    (case zlist => k_is)
    (case zset => k_is)
    (case zint => k_is)
    (case zstr => k_is)
    (case zmax => k_is)
    (case ztuple => k_is)
    (case zbool => k_is)
    (case g1 => k_is)
    (case x1 => k_exc)
    (case k_1 => k_is)
    (case b1 => k_is)
    (case v1 => k_is)
    (case m1 => k_is)
    (case t1 => k_is)
    (case l_1 => k_is)
    (case d1 => k_is)
    (case p1 => k_is)
    (case q1 => k_is)
    (case r1 => k_is)
    (case o1 => k_is)
    (case g2 => k_is)
    (case x2 => k_exc)
    (case k_2 => k_is)
    (case b2 => k_is)
    (case v2 => k_is)
    (case m2 => k_is)
    (case t2 => k_is)
    (case l_2 => k_is)
    (case d2 => k_is)
    (case p2 => k_is)
    (case q2 => k_is)
    (case r2 => k_is)
    (case o2 => k_is)
    (case g3 => k_is)
    (case x3 => k_exc)
    (case k_3 => k_is)
    (case b3 => k_is)
    (case v3 => k_is)
    (case m3 => k_is)
    (case t3 => k_is)
    (case l_3 => k_is)
    (case d3 => k_is)
    (case p3 => k_is)
    (case q3 => k_is)
    (case r3 => k_is)
    (case o3 => k_is)
    (case gL => k_is)
    (case xL => k_exc)
    (case k_L => k_is)
    (case bL => k_is)
    (case vL => k_is)
    (case mL => k_is)
    (case tL => k_is)
    (case l_L => k_is)
    (case dL => k_is)
    (case pL => k_is)
    (case qL => k_is)
    (case rL => k_is)
    (case oL => k_is)
    (case h1L => k_is)
    (case h12 => k_is)
    (case h13 => k_is)
    (case hsp => k_is)
    (case htk => k_is)
    (case zVE => k_is)
#print axioms PySem.Challenge.cw_twoline_k01_lines_through_two_points_holds
