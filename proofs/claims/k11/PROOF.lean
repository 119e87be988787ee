import PyProof.Rows.All
import Wide.All
import OpenK.AllK
import Wide.FinOn
import HandS.ForMost
import HandS.Wide
import HandS.IsInst
import HandS.Deep
import HandS.TupSets
import HandS.Conv
import HandS.TupLen
import HandS.Dict
import KE.SortData
import HandS.Walk
import HandS.Exc
import PySem.Challenge.RW_twoline_k11_points_written
set_option Elab.async false
set_option linter.all false
set_option maxRecDepth 100000
set_option maxHeartbeats 4000000
namespace Tw

abbrev P2 := Int × Int
abbrev L3 := Int × Int × Int

/-! ### gcd by while -/
theorem gcd_turn {a b : Int} (ha : 0 ≤ a) (hb : 0 < b) : Int.gcd b (a % b) = Int.gcd a b ∧ 0 ≤ a % b ∧ a % b < b := by
  refine ⟨?_, Int.emod_nonneg _ (by omega), Int.emod_lt_of_pos _ hb⟩
  have h : a % b = a - b * (a / b) := by have := Int.mul_ediv_add_emod a b; omega
  rw [h, Int.gcd_sub_mul_left_right, Int.gcd_comm]

def cm (a b : Int) : Int := (Int.gcd a b : Nat)
theorem cm_nonneg (a b : Int) : 0 ≤ cm a b := Int.natCast_nonneg _
theorem cm_pos {a b : Int} (h : a ≠ 0 ∨ b ≠ 0) : 0 < cm a b := by
  have := Int.gcd_pos_iff.mpr h
  unfold cm; omega
theorem cm_abs (a b : Int) : cm (if a < 0 then -a else a) (if b < 0 then -b else b) = cm a b := by
  unfold cm
  split <;> split <;> simp [Int.gcd_neg, Int.neg_gcd]
theorem cm_dvd_left (a b : Int) : cm a b ∣ a := Int.gcd_dvd_left a b
theorem cm_dvd_right (a b : Int) : cm a b ∣ b := Int.gcd_dvd_right a b
theorem cm_mul (k a b : Int) : cm (k * a) (k * b) = k.natAbs * cm a b := by
  unfold cm
  rw [Int.gcd_mul_left]
  simp
theorem cm_natAbs (a b : Int) : (cm a b).natAbs = Int.gcd a b := by
  unfold cm; simp
theorem cm_le_left {a : Int} (b : Int) (h : a ≠ 0) : (cm a b).natAbs ≤ a.natAbs := by
  rw [cm_natAbs]; exact Int.gcd_le_natAbs_left b h
theorem cm_le_right (a : Int) {b : Int} (h : b ≠ 0) : (cm a b).natAbs ≤ b.natAbs := by
  rw [cm_natAbs]; exact Int.gcd_le_natAbs_right a h

/-! ### exact division -/
theorem fdiv_mul {d x : Int} (h : d ≠ 0) : (d * x).fdiv d = x := Int.mul_fdiv_cancel_left x h
theorem fdiv_pos {a d : Int} (h : 0 ≤ d) : a.fdiv d = a / d := Int.fdiv_eq_ediv_of_nonneg a h

/-! ### a line in lowest numbers -/
/-- the first nonzero one of the two is below nought -/
def Low (a b : Int) : Prop := a < 0 ∨ (a = 0 ∧ b < 0)
instance (a b : Int) : Decidable (Low a b) := by unfold Low; infer_instance
def dv (a b c : Int) : Int := if Low a b then 0 - cm (cm a b) c else cm (cm a b) c
def norm3 (a b c : Int) : L3 := (a.fdiv (dv a b c), b.fdiv (dv a b c), c.fdiv (dv a b c))

theorem cm3_pos {a b : Int} (c : Int) (h : a ≠ 0 ∨ b ≠ 0) : 0 < cm (cm a b) c := cm_pos (.inl (by have := cm_pos h; omega))
theorem dv_ne {a b : Int} (c : Int) (h : a ≠ 0 ∨ b ≠ 0) : dv a b c ≠ 0 := by
  have := cm3_pos c h
  unfold dv; split <;> omega
theorem cm3_dvd (a b c : Int) : cm (cm a b) c ∣ a ∧ cm (cm a b) c ∣ b ∧ cm (cm a b) c ∣ c :=
  ⟨Int.dvd_trans (cm_dvd_left _ _) (cm_dvd_left _ _), Int.dvd_trans (cm_dvd_left _ _) (cm_dvd_right _ _), cm_dvd_right _ _⟩
theorem dv_dvd (a b c : Int) : dv a b c ∣ a ∧ dv a b c ∣ b ∧ dv a b c ∣ c := by
  obtain ⟨h1, h2, h3⟩ := cm3_dvd a b c
  unfold dv; split
  · rw [Int.zero_sub]; exact ⟨Int.neg_dvd.mpr h1, Int.neg_dvd.mpr h2, Int.neg_dvd.mpr h3⟩
  · exact ⟨h1, h2, h3⟩
theorem norm3_spec {a b : Int} (c : Int) (h : a ≠ 0 ∨ b ≠ 0) :
    a = dv a b c * (norm3 a b c).1 ∧ b = dv a b c * (norm3 a b c).2.1 ∧ c = dv a b c * (norm3 a b c).2.2 := by
  obtain ⟨⟨x, hx⟩, ⟨y, hy⟩, ⟨z, hz⟩⟩ := dv_dvd a b c
  have hd := dv_ne c h
  have e1 : a.fdiv (dv a b c) = x := (congrArg (fun t => Int.fdiv t (dv a b c)) hx).trans (fdiv_mul hd)
  have e2 : b.fdiv (dv a b c) = y := (congrArg (fun t => Int.fdiv t (dv a b c)) hy).trans (fdiv_mul hd)
  have e3 : c.fdiv (dv a b c) = z := (congrArg (fun t => Int.fdiv t (dv a b c)) hz).trans (fdiv_mul hd)
  refine ⟨?_, ?_, ?_⟩
  · show a = dv a b c * a.fdiv (dv a b c); rw [e1]; exact hx
  · show b = dv a b c * b.fdiv (dv a b c); rw [e2]; exact hy
  · show c = dv a b c * c.fdiv (dv a b c); rw [e3]; exact hz
theorem norm3_eq {a b c d x y z : Int} (hd : dv a b c = d) (h0 : d ≠ 0) (hx : a = d * x) (hy : b = d * y) (hz : c = d * z) : norm3 a b c = (x, y, z) := by
  unfold norm3
  rw [hd]
  have e1 : a.fdiv d = x := (congrArg (fun t => Int.fdiv t d) hx).trans (fdiv_mul h0)
  have e2 : b.fdiv d = y := (congrArg (fun t => Int.fdiv t d) hy).trans (fdiv_mul h0)
  have e3 : c.fdiv d = z := (congrArg (fun t => Int.fdiv t d) hz).trans (fdiv_mul h0)
  rw [e1, e2, e3]

theorem mul_low {k a b : Int} (hk : 0 < k) : Low (k * a) (k * b) ↔ Low a b := by
  unfold Low
  have h1 : k * a < 0 ↔ a < 0 := by
    constructor
    · intro h
      rcases Int.lt_or_le a 0 with q | q
      · exact q
      · have := Int.mul_nonneg (Int.le_of_lt hk) q; omega
    · intro h; exact Int.mul_neg_of_pos_of_neg hk h
  have h2 : k * a = 0 ↔ a = 0 := by
    constructor
    · intro h
      rcases Int.mul_eq_zero.mp h with q | q
      · omega
      · exact q
    · rintro rfl; simp
  have h3 : k * b < 0 ↔ b < 0 := by
    constructor
    · intro h
      rcases Int.lt_or_le b 0 with q | q
      · exact q
      · have := Int.mul_nonneg (Int.le_of_lt hk) q; omega
    · intro h; exact Int.mul_neg_of_pos_of_neg hk h
  rw [h1, h2, h3]
theorem neg_low {a b : Int} (h : a ≠ 0 ∨ b ≠ 0) : Low (-a) (-b) ↔ ¬ Low a b := by
  unfold Low; omega
theorem dv_mul_pos {k a b c : Int} (hk : 0 < k) : dv (k * a) (k * b) (k * c) = k * dv a b c := by
  have hn : ((k.natAbs : Nat) : Int) = k := by omega
  have e : cm (cm (k * a) (k * b)) (k * c) = k * cm (cm a b) c := by
    rw [cm_mul, hn, cm_mul, hn]
  unfold dv
  rw [e]
  by_cases h : Low a b
  · rw [if_pos h, if_pos ((mul_low hk).mpr h), Int.mul_sub, Int.mul_zero]
  · rw [if_neg h, if_neg (fun q => h ((mul_low hk).mp q))]
theorem dv_neg {a b : Int} (c : Int) (h : a ≠ 0 ∨ b ≠ 0) : dv (-a) (-b) (-c) = - dv a b c := by
  have e : cm (cm (-a) (-b)) (-c) = cm (cm a b) c := by
    unfold cm; simp [Int.gcd_neg, Int.neg_gcd]
  unfold dv
  rw [e]
  by_cases q : Low a b
  · rw [if_pos q, if_neg (fun z => (neg_low h).mp z q)]; omega
  · rw [if_neg q, if_pos ((neg_low h).mpr q)]; omega
theorem norm3_neg {a b : Int} (c : Int) (h : a ≠ 0 ∨ b ≠ 0) : norm3 (-a) (-b) (-c) = norm3 a b c := by
  obtain ⟨h1, h2, h3⟩ := norm3_spec c h
  have hd := dv_ne c h
  refine norm3_eq (x := (norm3 a b c).1) (y := (norm3 a b c).2.1) (z := (norm3 a b c).2.2) (dv_neg c h) (by omega) ?_ ?_ ?_
  · rw [Int.neg_mul, ← h1]
  · rw [Int.neg_mul, ← h2]
  · rw [Int.neg_mul, ← h3]
theorem norm3_pos {k a b : Int} (c : Int) (hk : 0 < k) (h : a ≠ 0 ∨ b ≠ 0) : norm3 (k * a) (k * b) (k * c) = norm3 a b c := by
  obtain ⟨h1, h2, h3⟩ := norm3_spec c h
  have hd := dv_ne c h
  refine norm3_eq (x := (norm3 a b c).1) (y := (norm3 a b c).2.1) (z := (norm3 a b c).2.2) (dv_mul_pos hk) (fun z => ?_) ?_ ?_ ?_
  · rcases Int.mul_eq_zero.mp z with q | q
    · omega
    · exact hd q
  · rw [Int.mul_assoc, ← h1]
  · rw [Int.mul_assoc, ← h2]
  · rw [Int.mul_assoc, ← h3]
theorem norm3_scale {k a b : Int} (c : Int) (hk : k ≠ 0) (h : a ≠ 0 ∨ b ≠ 0) : norm3 (k * a) (k * b) (k * c) = norm3 a b c := by
  rcases Int.lt_or_le 0 k with q | q
  · exact norm3_pos c q h
  · have q' : 0 < -k := by omega
    have h' : -a ≠ 0 ∨ -b ≠ 0 := by omega
    have e := norm3_pos (k := -k) (-c) q' h'
    rw [Int.neg_mul_neg, Int.neg_mul_neg, Int.neg_mul_neg] at e
    rw [e, norm3_neg c h]
/-- proportional triples -/
theorem norm3_prop {a b c a' b' c' k k' : Int} (h : a ≠ 0 ∨ b ≠ 0) (h' : a' ≠ 0 ∨ b' ≠ 0) (hk : k ≠ 0) (hk' : k' ≠ 0) (e1 : k * a' = k' * a) (e2 : k * b' = k' * b) (e3 : k * c' = k' * c) : norm3 a' b' c' = norm3 a b c := by
  rw [← norm3_scale c' hk h', e1, e2, e3, norm3_scale c hk' h]
/-- its first nonzero number is above nought; nothing above 1 divides all three -/
theorem norm3_ne {a b : Int} (c : Int) (h : a ≠ 0 ∨ b ≠ 0) : (norm3 a b c).1 ≠ 0 ∨ (norm3 a b c).2.1 ≠ 0 := by
  obtain ⟨h1, h2, h3⟩ := norm3_spec c h
  rcases h with h | h
  · left; intro z; rw [z] at h1; simp at h1; exact h h1
  · right; intro z; rw [z] at h2; simp at h2; exact h h2

/-! ### lines through points -/
def On (l : L3) (p : P2) : Prop := l.1 * p.1 + l.2.1 * p.2 = l.2.2
instance (l : L3) (p : P2) : Decidable (On l p) := by unfold On; infer_instance
def lineOf (p q : P2) : L3 := norm3 (q.2 - p.2) (p.1 - q.1) ((q.2 - p.2) * p.1 + (p.1 - q.1) * p.2)
theorem diff_ne {p q : P2} (h : p ≠ q) : q.2 - p.2 ≠ 0 ∨ p.1 - q.1 ≠ 0 := by
  obtain ⟨a, b⟩ := p
  obtain ⟨c, d⟩ := q
  by_cases h1 : a = c
  · left; intro z
    have : b = d := by dsimp only at z; omega
    exact h (by rw [h1, this])
  · right; dsimp only; omega
theorem on_norm3 {a b : Int} (c : Int) (h : a ≠ 0 ∨ b ≠ 0) (p : P2) : On (norm3 a b c) p ↔ a * p.1 + b * p.2 = c := by
  obtain ⟨h1, h2, h3⟩ := norm3_spec c h
  have hd := dv_ne c h
  unfold On
  generalize norm3 a b c = t at h1 h2 h3 ⊢
  generalize dv a b c = d at h1 h2 h3 hd
  constructor
  · intro e
    rw [h1, h2, h3, ← e, Int.mul_add, Int.mul_assoc, Int.mul_assoc]
  · intro e
    rw [h1, h2, h3, Int.mul_assoc, Int.mul_assoc, ← Int.mul_add] at e
    exact Int.eq_of_mul_eq_mul_left hd e
theorem on_lineOf {p q : P2} (h : p ≠ q) (r : P2) : On (lineOf p q) r ↔ (q.2 - p.2) * r.1 + (p.1 - q.1) * r.2 = (q.2 - p.2) * p.1 + (p.1 - q.1) * p.2 := on_norm3 _ (diff_ne h) r
theorem on_left {p q : P2} (h : p ≠ q) : On (lineOf p q) p := (on_lineOf h p).mpr rfl
theorem on_right {p q : P2} (h : p ≠ q) : On (lineOf p q) q := by
  refine (on_lineOf h q).mpr ?_
  obtain ⟨a, b⟩ := p
  obtain ⟨c, d⟩ := q
  dsimp only
  grind
theorem lineOf_comm {p q : P2} (h : p ≠ q) : lineOf q p = lineOf p q := by
  have e1 : p.2 - q.2 = -(q.2 - p.2) := by omega
  have e2 : q.1 - p.1 = -(p.1 - q.1) := by omega
  have e3 := (on_lineOf h q).mp (on_right h)
  unfold lineOf
  rw [e1, e2, Int.neg_mul, Int.neg_mul, ← Int.neg_add, e3]
  exact norm3_neg _ (diff_ne h)
/-- two unlike points of one line: they tell it -/
theorem lineOf_unique {r s p q : P2} (hrs : r ≠ s) (hpq : p ≠ q) (hp : On (lineOf r s) p) (hq : On (lineOf r s) q) : lineOf p q = lineOf r s := by
  have hp' := (on_lineOf hrs p).mp hp
  have hq' := (on_lineOf hrs q).mp hq
  have na := diff_ne hrs
  have nb := diff_ne hpq
  unfold lineOf
  generalize hc : (s.2 - r.2) * r.1 + (r.1 - s.1) * r.2 = c at hp' hq' ⊢
  generalize s.2 - r.2 = a at na hp' hq' ⊢
  generalize r.1 - s.1 = b at na hp' hq' ⊢
  obtain ⟨px, py⟩ := p
  obtain ⟨qx, qy⟩ := q
  dsimp only at *
  -- a * (qx - px) + b * (qy - py) = 0
  have z : a * (px - qx) = b * (qy - py) := by
    rw [Int.mul_sub, Int.mul_sub]; omega
  by_cases h0 : a = 0
  · subst h0
    have hb : b ≠ 0 := by omega
    have z2 : b * (qy - py) = 0 := by rw [← z]; simp
    have z3 : qy - py = 0 := by
      rcases Int.mul_eq_zero.mp z2 with q | q
      · exact absurd q hb
      · exact q
    have nx : px - qx ≠ 0 := by omega
    refine norm3_prop (k := b) (k' := px - qx) na nb hb nx ?_ ?_ ?_
    · rw [z3]; simp
    · exact Int.mul_comm _ _
    · rw [z3, ← hp']; simp only [Int.zero_mul, Int.zero_add]; rw [← Int.mul_assoc, ← Int.mul_assoc, Int.mul_comm b]
  · have ny : qy - py ≠ 0 := by
      intro q
      rw [q, Int.mul_zero] at z
      rcases Int.mul_eq_zero.mp z with q2 | q2
      · exact h0 q2
      · omega
    refine norm3_prop (k := a) (k' := qy - py) na nb h0 ny ?_ ?_ ?_
    · exact Int.mul_comm _ _
    · rw [z, Int.mul_comm]
    · rw [← hp', Int.mul_add, Int.mul_add]
      have e1 : a * ((qy - py) * px) = (qy - py) * (a * px) := Int.mul_left_comm _ _ _
      have e2 : a * ((px - qx) * py) = (qy - py) * (b * py) := by
        rw [← Int.mul_assoc, z, Int.mul_comm b, Int.mul_assoc]
      rw [e1, e2]
/-- as the law tells it: the signs first -/
def lawLine (p q : P2) : L3 :=
  let a := q.2 - p.2
  let b := p.1 - q.1
  let a' := if Low a b then 0 - a else a
  let b' := if Low a b then 0 - b else b
  let c' := a' * p.1 + b' * p.2
  let w := cm (cm a' b') c'
  (a'.fdiv w, b'.fdiv w, c'.fdiv w)
theorem lawLine_eq {p q : P2} (h : p ≠ q) : lawLine p q = lineOf p q := by
  have na := diff_ne h
  unfold lawLine lineOf
  generalize q.2 - p.2 = a at na ⊢
  generalize p.1 - q.1 = b at na ⊢
  dsimp only
  by_cases q : Low a b
  · rw [if_pos q, if_pos q, Int.zero_sub, Int.zero_sub]
    have e : -a * p.1 + -b * p.2 = -(a * p.1 + b * p.2) := by rw [Int.neg_mul, Int.neg_mul, Int.neg_add]
    rw [e, ← norm3_neg _ na]
    unfold norm3 dv
    rw [if_neg (fun z => (neg_low na).mp z q)]
  · rw [if_neg q, if_neg q]
    unfold norm3 dv
    rw [if_neg q]

/-! ### fractions -/
def frac (t b : Int) : Int × Int := let d := if b < 0 then 0 - cm t b else cm t b; (t.fdiv d, b.fdiv d)
def low (t b : Int) : Int × Int := (t.fdiv (cm t b), b.fdiv (cm t b))
theorem frac_low {t b : Int} (h : 0 ≤ b) : frac t b = low t b := by
  unfold frac low
  dsimp only
  rw [if_neg (by omega)]
theorem frac_spec (t : Int) {b : Int} (h : b ≠ 0) : ∃ d, d ≠ 0 ∧ t = d * (frac t b).1 ∧ b = d * (frac t b).2 ∧ 0 < (frac t b).2 ∧ cm (frac t b).1 (frac t b).2 = 1 := by
  have hp : 0 < cm t b := cm_pos (.inr h)
  obtain ⟨d, hd, h0, ht, hb, hs⟩ : ∃ d, d = (if b < 0 then 0 - cm t b else cm t b) ∧ d ≠ 0 ∧ d ∣ t ∧ d ∣ b ∧ (0 < d ↔ 0 < b) := by
    refine ⟨_, rfl, ?_⟩
    by_cases q : b < 0
    · rw [if_pos q, Int.zero_sub]
      exact ⟨by omega, Int.neg_dvd.mpr (cm_dvd_left _ _), Int.neg_dvd.mpr (cm_dvd_right _ _), by omega⟩
    · rw [if_neg q]
      exact ⟨by omega, cm_dvd_left _ _, cm_dvd_right _ _, by omega⟩
  have hn : d.natAbs = Int.gcd t b := by
    rw [hd]; have := cm_natAbs t b
    split
    · rw [Int.zero_sub, Int.natAbs_neg]; exact this
    · exact this
  obtain ⟨x, hx⟩ := ht
  obtain ⟨y, hy⟩ := hb
  have ef : frac t b = (x, y) := by
    unfold frac
    dsimp only
    rw [← hd]
    have e1 : t.fdiv d = x := (congrArg (fun t => Int.fdiv t d) hx).trans (fdiv_mul h0)
    have e2 : b.fdiv d = y := (congrArg (fun t => Int.fdiv t d) hy).trans (fdiv_mul h0)
    rw [e1, e2]
  rw [ef]
  refine ⟨d, h0, hx, hy, ?_, ?_⟩
  · show 0 < y
    rcases Int.lt_or_le 0 y with q | q
    · exact q
    · exfalso
      rcases Int.lt_or_le 0 d with q2 | q2
      · have h1 := hs.mp q2
        have := Int.mul_nonneg (Int.le_of_lt q2) (show 0 ≤ -y by omega)
        rw [Int.mul_neg] at this
        omega
      · have h1 : ¬ 0 < b := fun z => by have := hs.mpr z; omega
        have := Int.mul_nonneg (show 0 ≤ -d by omega) (show 0 ≤ -y by omega)
        rw [Int.neg_mul_neg] at this
        omega
  · show cm x y = 1
    have e : cm t b = d.natAbs * cm x y := by
      have := cm_mul d x y
      rw [← hx, ← hy] at this
      exact this
    have e2 : ((d.natAbs : Nat) : Int) = cm t b := by rw [hn]; rfl
    rw [e2] at e
    have : cm t b * 1 = cm t b * cm x y := by rw [Int.mul_one]; exact e
    exact (Int.eq_of_mul_eq_mul_left (by omega) this).symm
end Tw
namespace Tw

/-! ### the nearest point of a line: Kelly's step -/
def much (l : L3) (p : P2) : Int := l.1 * p.1 + l.2.1 * p.2 - l.2.2
def nn (l : L3) : Int := l.1 * l.1 + l.2.1 * l.2.1
def tau (l : L3) (p q : P2) : Int := l.1 * (q.2 - p.2) - l.2.1 * (q.1 - p.1)
theorem on_much {l : L3} {p : P2} : On l p ↔ much l p = 0 := by unfold On much; omega
theorem sq_pos {a : Int} (h : a ≠ 0) : 0 < a * a := by
  rcases Int.lt_or_le a 0 with q | q
  · have := Int.mul_pos (show 0 < -a by omega) (show 0 < -a by omega)
    rwa [Int.neg_mul_neg] at this
  · exact Int.mul_pos (by omega) (by omega)
theorem sq_nonneg (a : Int) : 0 ≤ a * a := by
  by_cases h : a = 0
  · rw [h]; decide
  · exact Int.le_of_lt (sq_pos h)
theorem nn_pos {l : L3} (h : l.1 ≠ 0 ∨ l.2.1 ≠ 0) : 0 < nn l := by
  unfold nn
  have h1 := sq_nonneg l.1
  have h2 := sq_nonneg l.2.1
  rcases h with h | h
  · have := sq_pos h; omega
  · have := sq_pos h; omega
theorem id1 (a b u v s t : Int) : (a * a + b * b) * (u * t - v * s) = (a * u + b * v) * (a * t - b * s) - (a * s + b * t) * (a * v - b * u) := by grind
theorem id2 (a b u v : Int) : (a * a + b * b) * (u * u + v * v) = (a * u + b * v) * (a * u + b * v) + (a * v - b * u) * (a * v - b * u) := by grind
theorem id3 (a b u v s t : Int) : (a * s + b * t) * u = b * (u * t - v * s) + s * (a * u + b * v) := by grind
theorem id4 (a b u v s t : Int) : (a * s + b * t) * v = - (a * (u * t - v * s)) + t * (a * u + b * v) := by grind
theorem id5 {M u v a b c : Int} (h1 : M * u = b * c) (h2 : M * v = -(a * c)) : M * M * (u * u + v * v) = (a * a + b * b) * (c * c) := by
  have e : M * M * (u * u + v * v) = (M * u) * (M * u) + (M * v) * (M * v) := by grind
  rw [e, h1, h2]; grind
theorem id6 (M n w : Int) : M * M * n * (n * w) = (M * M * w) * (n * n) := by grind
theorem id7 (m c n : Int) : m * (c * c) * (n * n) = m * ((n * c) * (n * c)) := by grind
theorem id8 (D m n w : Int) : D * D * m * (n * w) = m * (D * D * (n * w)) := by grind
theorem id9 (D k : Int) : D * k * (D * k) = D * D * (k * k) := by grind
/-- all seen from p -/
theorem kelly_0 {a b a' b' u v s t D : Int} (hr : a * u + b * v = -D) (hq : a * s + b * t = -D) (hr' : a' * u + b' * v = 0) (hn : 0 < a * a + b * b) (hm : 0 < a' * a' + b' * b') (hD : D ≠ 0)
    (ht : ((a * v - b * u) - (a * t - b * s)) * ((a * v - b * u) - (a * t - b * s)) ≤ (a * v - b * u) * (a * v - b * u)) :
    (a' * s + b' * t) * (a' * s + b' * t) * (a * a + b * b) < D * D * (a' * a' + b' * b') := by
  have i1 := id1 a b u v s t
  have i2 := id2 a b u v
  have i3 := id3 a' b' u v s t
  have i4 := id4 a' b' u v s t
  rw [hr, hq] at i1
  rw [hr, Int.neg_mul_neg] at i2
  rw [hr', Int.mul_zero, Int.add_zero] at i3 i4
  have i5 := id5 i3 i4
  clear i3 i4 hr hq hr'
  generalize a' * s + b' * t = M at i5 ⊢
  generalize a' * a' + b' * b' = m at i5 hm ⊢
  generalize a * v - b * u = tr at i1 i2 ht
  generalize a * t - b * s = tq at i1 ht
  generalize u * t - v * s = cr at i1 i5
  generalize a * a + b * b = n at i1 i2 hn ⊢
  generalize u * u + v * v = w at i2 i5
  have i1' : n * cr = D * (tr - tq) := by
    rw [i1, Int.mul_sub, Int.neg_mul, Int.neg_mul]; omega
  clear i1
  have hDD := sq_pos hD
  have hN : 0 < n * w := by
    rw [i2]
    have := sq_nonneg tr
    omega
  have k1 : M * M * n * (n * w) = m * (D * D * ((tr - tq) * (tr - tq))) := by
    rw [id6, i5, id7, i1', id9]
  have k2 : D * D * m * (n * w) = m * (D * D * (D * D + tr * tr)) := by rw [id8, i2]
  have k3 : m * (D * D * ((tr - tq) * (tr - tq))) < m * (D * D * (D * D + tr * tr)) := by
    refine Int.mul_lt_mul_of_pos_left ?_ hm
    refine Int.mul_lt_mul_of_pos_left ?_ hDD
    omega
  rw [← k1, ← k2] at k3
  exact Int.lt_of_mul_lt_mul_right k3 (Int.le_of_lt hN)
theorem kelly_alg {a b c a' b' c' px py qx qy rx ry : Int} (hq : a * qx + b * qy = c) (hr : a * rx + b * ry = c) (hp' : a' * px + b' * py = c') (hr' : a' * rx + b' * ry = c')
    (hn : 0 < a * a + b * b) (hm : 0 < a' * a' + b' * b') (hD : a * px + b * py - c ≠ 0)
    (ht : ((a * (ry - py) - b * (rx - px)) - (a * (qy - py) - b * (qx - px))) * ((a * (ry - py) - b * (rx - px)) - (a * (qy - py) - b * (qx - px))) ≤ (a * (ry - py) - b * (rx - px)) * (a * (ry - py) - b * (rx - px))) :
    (a' * qx + b' * qy - c') * (a' * qx + b' * qy - c') * (a * a + b * b) < (a * px + b * py - c) * (a * px + b * py - c) * (a' * a' + b' * b') := by
  have e : a' * qx + b' * qy - c' = a' * (qx - px) + b' * (qy - py) := by rw [Int.mul_sub, Int.mul_sub]; omega
  rw [e]
  refine kelly_0 (u := rx - px) (v := ry - py) ?_ ?_ ?_ hn hm hD ht
  · rw [Int.mul_sub, Int.mul_sub]; omega
  · rw [Int.mul_sub, Int.mul_sub]; omega
  · rw [Int.mul_sub, Int.mul_sub]; omega

/-- p not on l; q and r on l, q no further from the foot than r, on its side: q is nearer to the line through r and p -/
theorem kelly {l m : L3} {p q r : P2} (hq : On l q) (hr : On l r) (hl : l.1 ≠ 0 ∨ l.2.1 ≠ 0) (hm : m.1 ≠ 0 ∨ m.2.1 ≠ 0) (hp : ¬ On l p) (mp : On m p) (mr : On m r)
    (ht : (tau l p r - tau l p q) * (tau l p r - tau l p q) ≤ tau l p r * tau l p r) : much m q * much m q * nn l < much l p * much l p * nn m :=
  kelly_alg hq hr mp mr (nn_pos hl) (nn_pos hm) (fun z => hp (by unfold On; omega)) ht

theorem tau_inj {l : L3} {p q r : P2} (hl : l.1 ≠ 0 ∨ l.2.1 ≠ 0) (hq : On l q) (hr : On l r) (h : tau l p q = tau l p r) : q = r := by
  obtain ⟨a, b, c⟩ := l
  obtain ⟨qx, qy⟩ := q
  obtain ⟨rx, ry⟩ := r
  unfold On at hq hr
  unfold tau at h
  dsimp only at *
  have hn : 0 < a * a + b * b := nn_pos (l := (a, b, c)) hl
  have k1 : a * (qx - rx) + b * (qy - ry) = 0 := by rw [Int.mul_sub, Int.mul_sub]; omega
  have k2 : a * (qy - ry) - b * (qx - rx) = 0 := by
    simp only [Int.mul_sub] at h ⊢; omega
  have h1 : (a * a + b * b) * (qx - rx) = 0 := by
    have : (a * a + b * b) * (qx - rx) = a * (a * (qx - rx) + b * (qy - ry)) - b * (a * (qy - ry) - b * (qx - rx)) := by generalize qx - rx = x; generalize qy - ry = y; grind
    rw [this, k1, k2]; simp
  have h2 : (a * a + b * b) * (qy - ry) = 0 := by
    have : (a * a + b * b) * (qy - ry) = b * (a * (qx - rx) + b * (qy - ry)) + a * (a * (qy - ry) - b * (qx - rx)) := by generalize qx - rx = x; generalize qy - ry = y; grind
    rw [this, k1, k2]; simp
  have z : ∀ x : Int, (a * a + b * b) * x = 0 → x = 0 := fun x hx => by
    rcases Int.mul_eq_zero.mp hx with q | q
    · omega
    · exact q
  have e1 := z _ h1
  have e2 := z _ h2
  have f1 : qx = rx := by omega
  have f2 : qy = ry := by omega
  rw [f1, f2]

/-- two ints of one sign: the lesser of the two beside the greater -/
theorem side_sq {x y : Int} (h : (0 ≤ x ∧ x ≤ y) ∨ (y ≤ x ∧ x ≤ 0)) : (y - x) * (y - x) ≤ y * y := by
  rcases h with ⟨h1, h2⟩ | ⟨h1, h2⟩
  · exact Int.mul_le_mul (by omega) (by omega) (by omega) (by omega)
  · have := Int.mul_le_mul (a := x - y) (b := x - y) (c := -y) (d := -y) (by omega) (by omega) (by omega) (by omega)
    rw [Int.neg_mul_neg] at this
    have e : (x - y) * (x - y) = (y - x) * (y - x) := by grind
    rw [← e]; exact this

theorem lineOf_ne {p q : P2} (h : p ≠ q) : (lineOf p q).1 ≠ 0 ∨ (lineOf p q).2.1 ≠ 0 := norm3_ne _ (diff_ne h)

/-- two points of a line, the one beside the other seen from the foot of p: a nearer pair -/
theorem kelly_pair {r s p q t : P2} (hrs : r ≠ s) (hp : ¬ On (lineOf r s) p) (hq : On (lineOf r s) q) (ht : On (lineOf r s) t) (hqt : q ≠ t)
    (h : (0 ≤ tau (lineOf r s) p q ∧ tau (lineOf r s) p q ≤ tau (lineOf r s) p t) ∨ (tau (lineOf r s) p t ≤ tau (lineOf r s) p q ∧ tau (lineOf r s) p q ≤ 0)) :
    t ≠ p ∧ ¬ On (lineOf t p) q ∧ much (lineOf t p) q * much (lineOf t p) q * nn (lineOf r s) < much (lineOf r s) p * much (lineOf r s) p * nn (lineOf t p) := by
  have htp : t ≠ p := fun z => hp (z ▸ ht)
  refine ⟨htp, fun z => ?_, kelly hq ht (lineOf_ne hrs) (lineOf_ne htp) hp (on_right htp) (on_left htp) (side_sq h)⟩
  -- q and t on both lines
  have e1 := lineOf_unique hrs hqt hq ht
  have e2 := lineOf_unique htp hqt z (on_left htp)
  exact hp (by rw [← e1, e2]; exact on_right htp)

/-- a nearest pair's line has at most two of the points -/
theorem kelly_two {S : List P2} {r s p : P2} (hrs : r ≠ s) (hpS : p ∈ S) (hp : ¬ On (lineOf r s) p)
    (least : ∀ t ∈ S, ∀ u ∈ S, ∀ q ∈ S, t ≠ u → ¬ On (lineOf t u) q → ¬ much (lineOf t u) q * much (lineOf t u) q * nn (lineOf r s) < much (lineOf r s) p * much (lineOf r s) p * nn (lineOf t u))
    {x y z : P2} (hx : x ∈ S) (hy : y ∈ S) (hz : z ∈ S) (ox : On (lineOf r s) x) (oy : On (lineOf r s) y) (oz : On (lineOf r s) z) : x = y ∨ y = z ∨ x = z := by
  by_cases h1 : x = y
  · exact .inl h1
  by_cases h2 : y = z
  · exact .inr (.inl h2)
  by_cases h3 : x = z
  · exact .inr (.inr h3)
  exfalso
  have pair : ∀ {q t : P2}, q ∈ S → t ∈ S → On (lineOf r s) q → On (lineOf r s) t → q ≠ t →
      ¬ ((0 ≤ tau (lineOf r s) p q ∧ tau (lineOf r s) p q ≤ tau (lineOf r s) p t) ∨ (tau (lineOf r s) p t ≤ tau (lineOf r s) p q ∧ tau (lineOf r s) p q ≤ 0)) := by
    intro q t hq ht oq ot hqt h
    obtain ⟨a, b, c⟩ := kelly_pair hrs hp oq ot hqt h
    exact least t ht p hpS q hq a b c
  have a1 := pair hx hy ox oy h1
  have a2 := pair hy hx oy ox (Ne.symm h1)
  have a3 := pair hy hz oy oz h2
  have a4 := pair hz hy oz oy (Ne.symm h2)
  have a5 := pair hx hz ox oz h3
  have a6 := pair hz hx oz ox (Ne.symm h3)
  omega

/-! ### the least of finitely many fractions -/
theorem least_frac {α : Type} (N D : α → Int) : ∀ (l : List α), (∀ x ∈ l, 0 < D x) → l ≠ [] → ∃ x ∈ l, ∀ y ∈ l, ¬ N y * D x < N x * D y
  | [], _, h => absurd rfl h
  | [a], _, _ => ⟨a, List.mem_cons_self, fun y hy => by
      have e : y = a := by simpa using hy
      subst e; omega⟩
  | a :: b :: l, hd, _ => by
    obtain ⟨x, hx, hl⟩ := least_frac N D (b :: l) (fun y hy => hd y (List.mem_cons_of_mem _ hy)) (by simp)
    have da := hd a List.mem_cons_self
    have dx := hd x (List.mem_cons_of_mem _ hx)
    by_cases h : N a * D x < N x * D a
    · refine ⟨a, List.mem_cons_self, fun y hy => ?_⟩
      rcases List.mem_cons.mp hy with e | hy
      · subst e; omega
      · have dy := hd y (List.mem_cons_of_mem _ hy)
        intro c
        have h2 := hl y hy
        -- N y * D a < N a * D y, N a * D x < N x * D a, so N y * D x < N x * D y
        have s1 : N y * D a * D x < N a * D y * D x := Int.mul_lt_mul_of_pos_right c dx
        have s2 : N a * D x * D y < N x * D a * D y := Int.mul_lt_mul_of_pos_right h dy
        have s3 : (N y * D x) * D a < (N x * D y) * D a := by
          have e1 : N y * D a * D x = N y * D x * D a := by grind
          have e2 : N a * D y * D x = N a * D x * D y := by grind
          have e3 : N x * D a * D y = N x * D y * D a := by grind
          omega
        exact h2 (Int.lt_of_mul_lt_mul_right s3 (Int.le_of_lt da))
    · refine ⟨x, List.mem_cons_of_mem _ hx, fun y hy => ?_⟩
      rcases List.mem_cons.mp hy with e | hy
      · subst e; exact h
      · exact hl y hy

/-! ### points that do not lie on one line: a line with just two -/
def Col (S : List P2) : Prop := ∀ p ∈ S, ∀ q ∈ S, ∀ r ∈ S, p ≠ q → On (lineOf p q) r
theorem sylvester {S : List P2} (h : ¬ Col S) : ∃ p ∈ S, ∃ q ∈ S, p ≠ q ∧ ∀ x ∈ S, On (lineOf p q) x → x = p ∨ x = q := by
  -- all triples
  have hne : (((S.flatMap fun p => S.flatMap fun q => S.map fun r => (p, q, r)).filter fun t => decide (t.1 ≠ t.2.1 ∧ ¬ On (lineOf t.1 t.2.1) t.2.2))) ≠ [] := by
    intro z
    apply h
    intro p hp q hq r hr hpq
    by_cases o : On (lineOf p q) r
    · exact o
    · exfalso
      have : (p, q, r) ∈ (((S.flatMap fun p => S.flatMap fun q => S.map fun r => (p, q, r)).filter fun t => decide (t.1 ≠ t.2.1 ∧ ¬ On (lineOf t.1 t.2.1) t.2.2))) := by
        refine List.mem_filter.mpr ⟨?_, decide_eq_true ⟨hpq, o⟩⟩
        exact List.mem_flatMap.mpr ⟨p, hp, List.mem_flatMap.mpr ⟨q, hq, List.mem_map.mpr ⟨r, hr, rfl⟩⟩⟩
      rw [z] at this
      cases this
  obtain ⟨⟨r, s, p⟩, ht, least⟩ := least_frac (fun t => much (lineOf t.1 t.2.1) t.2.2 * much (lineOf t.1 t.2.1) t.2.2) (fun t => nn (lineOf t.1 t.2.1)) _ (fun t ht => nn_pos (lineOf_ne (of_decide_eq_true (List.mem_filter.mp ht).2).1)) hne
  obtain ⟨h1, h2⟩ := List.mem_filter.mp ht
  obtain ⟨hrs, hp⟩ := of_decide_eq_true h2
  obtain ⟨r', hr', h1⟩ := List.mem_flatMap.mp h1
  obtain ⟨s', hs', h1⟩ := List.mem_flatMap.mp h1
  obtain ⟨p', hp', e⟩ := List.mem_map.mp h1
  injection e with e1 e2
  injection e2 with e2 e3
  subst e1 e2 e3
  refine ⟨r', hr', s', hs', hrs, fun x hx ox => ?_⟩
  have := kelly_two (S := S) hrs hp' hp (fun t ht u hu q hq htu o => least (t, u, q) (List.mem_filter.mpr ⟨List.mem_flatMap.mpr ⟨t, ht, List.mem_flatMap.mpr ⟨u, hu, List.mem_map.mpr ⟨q, hq, rfl⟩⟩⟩, decide_eq_true ⟨htu, o⟩⟩)) hx hr' hs' ox (on_left hrs) (on_right hrs)
  rcases this with e | e | e
  · exact .inl e
  · exact absurd e hrs
  · exact .inr e

/-! ### as many lines as points -/
/-- L: all lines of S, each once -/
structure LinesFor (S : List P2) (L : List L3) : Prop where
  nd : L.Nodup
  mem : ∀ l, l ∈ L ↔ ∃ p ∈ S, ∃ q ∈ S, p ≠ q ∧ l = lineOf p q
theorem nodup_sub_length {α : Type} [DecidableEq α] : ∀ {A B : List α}, A.Nodup → (∀ x ∈ A, x ∈ B) → A.length ≤ B.length
  | [], B, _, _ => Nat.zero_le _
  | a :: A, B, hn, hs => by
    have ha : a ∈ B := hs a List.mem_cons_self
    have hn' := List.nodup_cons.mp hn
    have := nodup_sub_length (A := A) (B := B.erase a) hn'.2 (fun x hx => by
      have hxa : x ≠ a := fun e => hn'.1 (e ▸ hx)
      exact (List.mem_erase_of_ne hxa).mpr (hs x (List.mem_cons_of_mem _ hx)))
    rw [List.length_erase_of_mem ha] at this
    have hpos : 0 < B.length := List.length_pos_of_mem ha
    simp only [List.length_cons]
    omega
/-- one point p beside a line m, the others S' on it: the lines through p -/
theorem fan_nodup {S' : List P2} {p : P2} {m : L3} (hn : S'.Nodup) (hm : ∀ x ∈ S', ∀ y ∈ S', x ≠ y → lineOf x y = m) (hp : ¬ On m p) (hpS : p ∉ S') : (S'.map (lineOf p)).Nodup := by
  unfold List.Nodup
  rw [List.pairwise_map]
  refine List.Pairwise.imp_of_mem ?_ hn
  intro x y hx hy hxy e
  have px : p ≠ x := fun z => hpS (z ▸ hx)
  have py : p ≠ y := fun z => hpS (z ▸ hy)
  have := lineOf_unique px hxy (on_right px) (by rw [e]; exact on_right py)
  rw [hm x hx y hy hxy] at this
  exact hp (by rw [this]; exact on_left px)
theorem as_many : ∀ (n : Nat) (S : List P2) (L : List L3), S.length = n → S.Nodup → LinesFor S L → ¬ Col S → n ≤ L.length := by
  intro n
  induction n with
  | zero => intro S L _ _ _ _; exact Nat.zero_le _
  | succ n ih =>
    intro S L hlen hS hL hc
    obtain ⟨p, hp, q, hq, hpq, two⟩ := sylvester hc
    have hlen' : (S.erase p).length = n := by rw [List.length_erase_of_mem hp]; omega
    have hS' : (S.erase p).Nodup := hS.erase p
    have hpS' : p ∉ S.erase p := fun z => (List.Nodup.mem_erase_iff hS |>.mp z).1 rfl
    have sub : ∀ x ∈ S.erase p, x ∈ S := fun x hx => (List.Nodup.mem_erase_iff hS |>.mp hx).2
    have into : ∀ x ∈ S, x ≠ p → x ∈ S.erase p := fun x hx hne => List.Nodup.mem_erase_iff hS |>.mpr ⟨hne, hx⟩
    have hqS' : q ∈ S.erase p := into q hq (Ne.symm hpq)
    by_cases hc' : Col (S.erase p)
    · -- another point r beside q
      have : ∃ r ∈ S.erase p, r ≠ q := by
        apply Classical.byContradiction
        intro hno
        apply hc
        have all : ∀ x ∈ S, x = p ∨ x = q := fun x hx => by
          by_cases e : x = p
          · exact .inl e
          · by_cases e2 : x = q
            · exact .inr e2
            · exact absurd ⟨x, into x hx e, e2⟩ hno
        intro a ha b hb c hcx hab
        rcases all a ha with rfl | rfl
        · rcases all b hb with rfl | rfl
          · exact absurd rfl hab
          · rcases all c hcx with rfl | rfl
            · exact on_left hab
            · exact on_right hab
        · rcases all b hb with rfl | rfl
          · rcases all c hcx with rfl | rfl
            · exact on_right hab
            · exact on_left hab
          · exact absurd rfl hab
      obtain ⟨r, hr, hrq⟩ := this
      have hm : ∀ x ∈ S.erase p, ∀ y ∈ S.erase p, x ≠ y → lineOf x y = lineOf r q := fun x hx y hy hxy =>
        lineOf_unique hrq hxy (hc' r hr q hqS' x hx hrq) (hc' r hr q hqS' y hy hrq)
      have hpm : ¬ On (lineOf r q) p := by
        intro o
        have hqr := lineOf_unique hrq (p := p) (q := q) hpq o (on_right hrq)
        have := two r (sub r hr) (by rw [hqr]; exact on_left hrq)
        rcases this with e | e
        · exact hpS' (e ▸ hr)
        · exact hrq e
      have nf := fan_nodup hS' hm hpm hpS'
      have nd : (lineOf r q :: (S.erase p).map (lineOf p)).Nodup := by
        refine List.nodup_cons.mpr ⟨fun z => ?_, nf⟩
        obtain ⟨x, hx, e⟩ := List.mem_map.mp z
        have px : p ≠ x := fun z => hpS' (z ▸ hx)
        exact hpm (by rw [← e]; exact on_left px)
      have := nodup_sub_length nd (B := L) (fun l hl => by
        rcases List.mem_cons.mp hl with e | hl
        · exact (hL.mem l).mpr ⟨r, sub r hr, q, hq, hrq, e⟩
        · obtain ⟨x, hx, e⟩ := List.mem_map.mp hl
          exact (hL.mem l).mpr ⟨p, hp, x, sub x hx, fun z => hpS' (z ▸ hx), e.symm⟩)
      simp only [List.length_cons, List.length_map, hlen'] at this
      exact this
    · classical
      have hL' : LinesFor (S.erase p) (L.filter fun l => decide (∃ a ∈ S.erase p, ∃ b ∈ S.erase p, a ≠ b ∧ l = lineOf a b)) := by
        refine ⟨hL.nd.filter _, fun l => ?_⟩
        rw [List.mem_filter]
        constructor
        · rintro ⟨_, h2⟩; exact of_decide_eq_true h2
        · rintro ⟨a, ha, b, hb, hab, e⟩
          exact ⟨(hL.mem l).mpr ⟨a, sub a ha, b, sub b hb, hab, e⟩, decide_eq_true ⟨a, ha, b, hb, hab, e⟩⟩
      have h1 := ih _ _ hlen' hS' hL' hc'
      have hin : lineOf p q ∈ L := (hL.mem _).mpr ⟨p, hp, q, hq, hpq, rfl⟩
      have hout : lineOf p q ∉ L.filter fun l => decide (∃ a ∈ S.erase p, ∃ b ∈ S.erase p, a ≠ b ∧ l = lineOf a b) := by
        intro z
        obtain ⟨a, ha, b, hb, hab, e⟩ := (hL'.mem _).mp z
        have oa := two a (sub a ha) (by rw [e]; exact on_left hab)
        have ob := two b (sub b hb) (by rw [e]; exact on_right hab)
        rcases oa with e1 | e1
        · exact hpS' (e1 ▸ ha)
        · rcases ob with e2 | e2
          · exact hpS' (e2 ▸ hb)
          · exact hab (e1.trans e2.symm)
      have nd : (lineOf p q :: L.filter fun l => decide (∃ a ∈ S.erase p, ∃ b ∈ S.erase p, a ≠ b ∧ l = lineOf a b)).Nodup := List.nodup_cons.mpr ⟨hout, hL'.nd⟩
      have := nodup_sub_length nd (B := L) (fun l hl => by
        rcases List.mem_cons.mp hl with e | hl
        · exact e ▸ hin
        · exact (List.mem_filter.mp hl).1)
      simp only [List.length_cons] at this
      omega
/-- just one point beside a line: just as many -/
theorem just_as_many {S : List P2} {L : List L3} {p : P2} {m : L3} (hS : S.Nodup) (hL : LinesFor S L) (hp : p ∈ S) (hm : m ∈ L) (hpm : ¬ On m p) (hall : ∀ x ∈ S, x ≠ p → On m x) : L.length = S.length := by
  have hlen' : (S.erase p).length + 1 = S.length := by
    rw [List.length_erase_of_mem hp]
    have := List.length_pos_of_mem hp
    omega
  have hS' : (S.erase p).Nodup := hS.erase p
  have hpS' : p ∉ S.erase p := fun z => (List.Nodup.mem_erase_iff hS |>.mp z).1 rfl
  have sub : ∀ x ∈ S.erase p, x ∈ S := fun x hx => (List.Nodup.mem_erase_iff hS |>.mp hx).2
  have into : ∀ x ∈ S, x ≠ p → x ∈ S.erase p := fun x hx hne => List.Nodup.mem_erase_iff hS |>.mpr ⟨hne, hx⟩
  obtain ⟨r, hr, s, hs, hrs, em⟩ := (hL.mem m).mp hm
  have hmm : ∀ x ∈ S.erase p, ∀ y ∈ S.erase p, x ≠ y → lineOf x y = m := fun x hx y hy hxy => by
    rw [em]
    refine lineOf_unique hrs hxy ?_ ?_
    · rw [← em]; exact hall x (sub x hx) (fun z => hpS' (z ▸ hx))
    · rw [← em]; exact hall y (sub y hy) (fun z => hpS' (z ▸ hy))
  have nf := fan_nodup hS' hmm hpm hpS'
  have nd : (m :: (S.erase p).map (lineOf p)).Nodup := by
    refine List.nodup_cons.mpr ⟨fun z => ?_, nf⟩
    obtain ⟨x, hx, e⟩ := List.mem_map.mp z
    have px : p ≠ x := fun z => hpS' (z ▸ hx)
    exact hpm (by rw [← e]; exact on_left px)
  have h1 := nodup_sub_length nd (B := L) (fun l hl => by
    rcases List.mem_cons.mp hl with e | hl
    · exact e ▸ hm
    · obtain ⟨x, hx, e⟩ := List.mem_map.mp hl
      exact (hL.mem l).mpr ⟨p, hp, x, sub x hx, fun z => hpS' (z ▸ hx), e.symm⟩)
  have h2 := nodup_sub_length hL.nd (B := m :: (S.erase p).map (lineOf p)) (fun l hl => by
    obtain ⟨a, ha, b, hb, hab, e⟩ := (hL.mem l).mp hl
    by_cases ea : a = p
    · subst ea
      exact List.mem_cons_of_mem _ (List.mem_map.mpr ⟨b, into b hb (Ne.symm hab), e.symm⟩)
    · by_cases eb : b = p
      · subst eb
        refine List.mem_cons_of_mem _ (List.mem_map.mpr ⟨a, into a ha ea, ?_⟩)
        rw [e]; exact lineOf_comm hab
      · rw [e, hmm a (into a ha ea) b (into b hb eb) hab]
        exact List.mem_cons_self)
  simp only [List.length_cons, List.length_map] at h1 h2
  omega
end Tw
namespace Tw
/-! ### where two lines cross -/
def crs (l m : L3) : Int := l.1 * m.2.1 - m.1 * l.2.1
def crX (l m : L3) : P2 := frac (l.2.2 * m.2.1 - m.2.2 * l.2.1) (crs l m)
def crY (l m : L3) : P2 := frac (l.1 * m.2.2 - m.1 * l.2.2) (crs l m)
theorem cross_alg (a b c a' b' c' : Int) : a * (c * b' - c' * b) + b * (a * c' - a' * c) = c * (a * b' - a' * b) ∧ a' * (c * b' - c' * b) + b' * (a * c' - a' * c) = c' * (a * b' - a' * b) := by
  constructor <;> grind
theorem thr_alg {a b c X Y u d e x0 x1 y0 y1 : Int} (h : a * X + b * Y = c * u) (hX : X = d * x0) (hu : u = d * x1) (hY : Y = e * y0) (hu' : u = e * y1) : (d * e) * (a * x0 * y1 + b * y0 * x1) = (d * e) * (c * x1 * y1) := by
  have h1 : (d * e) * (a * x0 * y1 + b * y0 * x1) = a * (d * x0) * (e * y1) + b * (e * y0) * (d * x1) := by grind
  have h2 : (d * e) * (c * x1 * y1) = c * (d * x1) * (e * y1) := by grind
  rw [h1, h2, ← hX, ← hu', ← hY, ← hu]
  have h3 : a * X * u + b * Y * u = (a * X + b * Y) * u := by grind
  rw [h3, h]
def Thr (l : L3) (x y : P2) : Prop := l.1 * x.1 * y.2 + l.2.1 * y.1 * x.2 = l.2.2 * x.2 * y.2
theorem cross_thr {l m : L3} (h : crs l m ≠ 0) : Thr l (crX l m) (crY l m) ∧ Thr m (crX l m) (crY l m) := by
  obtain ⟨d, hd, x1, x2, _, _⟩ := frac_spec (l.2.2 * m.2.1 - m.2.2 * l.2.1) h
  obtain ⟨e, he, y1, y2, _, _⟩ := frac_spec (l.1 * m.2.2 - m.1 * l.2.2) h
  have hde : d * e ≠ 0 := fun z => by
    rcases Int.mul_eq_zero.mp z with z | z
    · exact hd z
    · exact he z
  obtain ⟨a1, a2⟩ := cross_alg l.1 l.2.1 l.2.2 m.1 m.2.1 m.2.2
  exact ⟨Int.eq_of_mul_eq_mul_left hde (thr_alg a1 x1 x2 y1 y2), Int.eq_of_mul_eq_mul_left hde (thr_alg a2 x1 x2 y1 y2)⟩
theorem low_of {t b : Int} (h : cm t b = 1) : low t b = (t, b) := by
  unfold low
  rw [h, Int.fdiv_one, Int.fdiv_one]
theorem frac_is (t : Int) {b : Int} (h : b ≠ 0) : 0 < (frac t b).2 ∧ low (frac t b).1 (frac t b).2 = frac t b := by
  obtain ⟨d, _, _, _, h1, h2⟩ := frac_spec t h
  exact ⟨h1, low_of h2⟩
/-- a fraction's numbers are no greater than those that it was made of -/
theorem frac_le (t : Int) {b : Int} (h : b ≠ 0) : (frac t b).1.natAbs ≤ t.natAbs ∧ (frac t b).2.natAbs ≤ b.natAbs := by
  obtain ⟨d, hd, h1, h2, _, _⟩ := frac_spec t h
  have le : ∀ {x y : Int}, x = d * y → y.natAbs ≤ x.natAbs := fun {x y} e => by
    rw [e, Int.natAbs_mul]
    exact Nat.le_mul_of_pos_left _ (Int.natAbs_pos.mpr hd)
  exact ⟨le h1, le h2⟩
end Tw
namespace Tw
open PySem PySem.Spec PyProof.Rows L2

/-! ### a def that stands, a def that keeps its promise -/
structure Df (K : PySem.W.Frag) (mg : Str → Option Value) (x : Str) (st : Stmt) (ps : List Str) where
  f : Addr
  fd : FuncData
  F : Fun K x x st f fd
  g : mg x = some (.ref f)
  b : Binds K fd ps []
structure Fn (P : Program) (w : World) (K : PySem.W.Frag) (mg : Str → Option Value) (base : Heap) (CX : CXT) (k : Nat) (x : Str) (ps : List Str) (sp : Sp) where
  f : Addr
  fd : FuncData
  ok : FnOk P w K mg base CX k f fd ps sp
  g : mg x = some (.ref f)
  kp : PySem.W.keepIn K (.ref f) = true
  b : Binds K fd ps []
section
variable {P : Program} {w : World} {K : PySem.W.Frag} {mg : Str → Option Value} {base : Heap} {CX : CXT} {k : Nat} {x : Str} {ps : List Str} {sp : Sp} {st : Stmt}
def Df.fn (D : Df K mg x st ps) (h : FnOk P w K mg base CX k D.f D.fd ps sp) : Fn P w K mg base CX k x ps sp := ⟨D.f, D.fd, h, D.g, D.F.kp, D.b⟩
end
section
variable {X : Cx} {k j : Nat} {x : Str} {ps : List Str} {sp : Sp} {p pos : Pos} {e : Expr} {es : List Expr} {t : TA}
theorem pcall (C : Fn X.prog X.w X.K X.mg X.base CX0 k x ps sp) (hr : Room j X.A) (ha : PA X (e :: es) t) (hkj : k ≤ j := by decide) (hg : Gl X x := by rfl) (hdb : (x == ("__debug__" : Str)) = false := by decide)
    (he : starEach (e :: es) X.env = (false, eval e X.env) :: starEach es X.env := by rfl) (hpl : (backTo pos (starEach es X.env)).any (·.1) = false := by rfl) :
    PE X (.Call (.Name x p) (e :: es) [] pos) (tCall sp [] E0 t) :=
  pe_call C.ok (hr.mono hkj) hg C.g C.kp C.b .nil pass0 ha hdb he hpl
end

/-! ### heaps -/
theorem same_new {H : Hp} {p : Addr} {o : HO} (h : H p = none) : Same H (upd H p o) := fun b u e => by rw [upd_ne (ne_of_none e h)]; exact e
theorem _root_.L2.Same.tup {K : PySem.W.Frag} {H H' : Hp} {a : Addr} {xs : List V} (e : Same H H') (h : SqT K H a xs) : SqT K H' a xs := by
  rcases h with (h | ⟨o, h⟩) | h
  · exact .inl (.inl (e _ _ h))
  · exact .inl (.inr ⟨o, e _ _ h⟩)
  · exact .inr h
/-- v is a tuple of xs -/
def Tp (K : PySem.W.Frag) (H : Hp) (v : V) (xs : List V) : Prop := ∃ t, v = .ref t ∧ SqT K H t xs
theorem Tp.same {K : PySem.W.Frag} {H H' : Hp} {v : V} {xs : List V} (e : Same H H') (h : Tp K H v xs) : Tp K H' v xs := let ⟨t, r, q⟩ := h; ⟨t, r, e.tup q⟩
theorem Tp.new {K : PySem.W.Frag} {H : Hp} {p : Addr} {xs : List V} : Tp K (upd H p (.tup xs)) (.ref p) xs := ⟨p, rfl, SqT.of upd_same⟩
def Pt (K : PySem.W.Frag) (H : Hp) (v : V) (p : P2) : Prop := Tp K H v [.int p.1, .int p.2]
def Ln (K : PySem.W.Frag) (H : Hp) (v : V) (l : L3) : Prop := Tp K H v [.int l.1, .int l.2.1, .int l.2.2]
theorem Pt.same {K : PySem.W.Frag} {H H' : Hp} {v : V} {p : P2} (e : Same H H') (h : Pt K H v p) : Pt K H' v p := Tp.same e h
theorem Ln.same {K : PySem.W.Frag} {H H' : Hp} {v : V} {p : L3} (e : Same H H') (h : Ln K H v p) : Ln K H' v p := Tp.same e h
/-- a new tuple that is tracked -/
def TpN (H H' : Hp) (v : V) (xs : List V) : Prop := ∃ t, v = .ref t ∧ H t = none ∧ H' t = some (.tup xs)
theorem TpN.tp {K : PySem.W.Frag} {H H' : Hp} {v : V} {xs : List V} (h : TpN H H' v xs) : Tp K H' v xs := let ⟨t, r, _, q⟩ := h; ⟨t, r, SqT.of q⟩
theorem at0 {α : Type} {a : α} {l : List α} : atI (a :: l) 0 = some a := atI_nat (j := 0) rfl
theorem at1 {α : Type} {a b : α} {l : List α} : atI (a :: b :: l) 1 = some b := atI_nat (j := 1) rfl
theorem at2 {α : Type} {a b c : α} {l : List α} : atI (a :: b :: c :: l) 2 = some c := atI_nat (j := 2) rfl

/-! ### // by a number of any sign -/
def CDivA (_ j : Int) : Prop := j ≠ 0 ∧ j.natAbs.log2 < 9000
theorem op_fdivA {X : Cx} : OpR X (binaryOp .FloorDiv) (rI CDivA fun i j => .int (i.fdiv j)) := opI fun i j _ _ _ _ _ hc q => floordiv_int hc.1 q (.inl (PyProof.noPylong_of_log2 hc.2))
theorem divA {i j : Int} {b : Nat} (h : j ≠ 0) (hb : j.natAbs < 2 ^ b) (h0 : 0 < b := by decide) (h9 : b ≤ 9000 := by decide) : CDivA i j := ⟨h, Nat.lt_of_lt_of_le (PySem.Flt.log2_lt_of h0 hb) h9⟩
theorem mulA {i j : Int} {a b : Nat} (ha : i.natAbs < 2 ^ a) (hb : j.natAbs < 2 ^ b) (h0 : 0 < a := by decide) (h1 : 0 < b := by decide) (h : a + b ≤ 1000000 := by decide) : CMulW i j := wide_mul ha hb h0 h1 h

/-! ### bounds by powers of two -/
def Bd (k : Nat) (n : Int) : Prop := n.natAbs < 2 ^ k
theorem Bd.mono {j k : Nat} {n : Int} (h : Bd j n) (hjk : j ≤ k := by decide) : Bd k n := Nat.lt_of_lt_of_le h (Nat.pow_le_pow_right (by decide) hjk)
theorem Bd.add {k : Nat} {m n : Int} (h : Bd k m) (h' : Bd k n) : Bd (k + 1) (m + n) := by
  unfold Bd at *
  rw [Nat.pow_succ]
  omega
theorem Bd.neg {k : Nat} {m : Int} (h : Bd k m) : Bd k (-m) := by
  unfold Bd at *
  rw [Int.natAbs_neg]
  exact h
theorem Bd.sub {k : Nat} {m n : Int} (h : Bd k m) (h' : Bd k n) : Bd (k + 1) (m - n) := by
  rw [Int.sub_eq_add_neg]
  exact h.add h'.neg
theorem Bd.mul {j k : Nat} {m n : Int} (h : Bd j m) (h' : Bd k n) : Bd (j + k) (m * n) := wide_lt h h'
theorem Bd.cm {i j : Nat} {m n : Int} (h : Bd i m) (h' : Bd j n) (h0 : n ≠ 0) : Bd j (cm m n) := Nat.lt_of_le_of_lt (cm_le_right m h0) h'
theorem Bd.mulOk {j k : Nat} {m n : Int} (h : Bd j m) (h' : Bd k n) (h0 : 0 < j := by decide) (h1 : 0 < k := by decide) (hs : j + k ≤ 1000000 := by decide) : CMulW m n := wide_mul h h' h0 h1 hs
theorem Bd.divOk {k : Nat} {m n : Int} (h : Bd k n) (hn : n ≠ 0) (h0 : 0 < k := by decide) (h9 : k ≤ 9000 := by decide) : CDivA m n := divA hn h h0 h9

/-! ### statements in short -/
section
variable {X : Cx} {x : Str} {e : Expr} {te : TE} {pos pos' : Pos}
theorem pset (i : Nat) (nd : X.N.Nodup) (he : PE X e te) (hi : X.N[i]? = some x := by rfl) (hx : Loc X.env.scope x := by first | exact Or.inl rfl | exact Or.inr rfl) (hs : swapsWith e (some (.Name x pos')) pos.line X.env = pure false := by rfl)
    (hf : X.fn x = true ∨ X.env.scope.names.lookup x = some .local := by first | exact .inl rfl | exact .inr rfl) : PS X (.Assign [.Name x pos'] e pos) (tAsg te (gName i)) := ps_set nd hi hx he hs hf
theorem pgn (i : Nat) (nd : X.N.Nodup) (hi : X.N[i]? = some x := by rfl) (hx : Loc X.env.scope x := by first | exact Or.inl rfl | exact Or.inr rfl) (hf : X.fn x = true ∨ X.env.scope.names.lookup x = some .local := by first | exact .inl rfl | exact .inr rfl) : PG X (.Name x pos) (gName i) := pg_name nd hi hx hf
end
/-- a reading that is easier to answer, in a block's place -/
theorem pjoin {X : Cx} {sts : List Stmt} {t u : TS} (h : PSs X sts t) (imp : ∀ D σ H, u D σ H → t D σ H) : PSs X sts u := ⟨fun pins s σ H D I hu => h.run pins s σ H D I (imp D σ H hu)⟩
theorem pjoinE {X : Cx} {e : Expr} {t u : TE} (h : PE X e t) (imp : ∀ σ H Q, u σ H Q → t σ H Q) : PE X e u := ⟨fun pins s σ H Q I hu => h.run pins s σ H Q I (imp σ H Q hu)⟩
theorem item_int {ns : List Int} {i : Nat} {y : V} (hi : (ns.map V.int)[i]? = some y) : ∃ z, ns[i]? = some z ∧ y = V.int z := by
  rw [List.getElem?_map] at hi
  cases e : ns[i]? with
  | none =>
    rw [e] at hi
    cases hi
  | some z =>
    rw [e] at hi
    exact ⟨z, rfl, (Option.some.inj hi).symm⟩
/-- an if whose test is known -/
theorem ifT {c : Bool} {A B : Prop} (hc : c = true) (h : A) : if c = true then A else B := by
  rw [if_pos hc]
  exact h
theorem ifF {c : Bool} {A B : Prop} (hc : c = false) (h : B) : if c = true then A else B := by
  rw [hc, if_neg Bool.false_ne_true]
  exact h
theorem tyes {σ : L2.St} {H : Hp} {Q : Bool → Hp → Prop} (h : Q true H) : tYes σ H Q := h
/-- what len asks, by name -/
def rLenS (K : PySem.W.Frag) : List V → Hp → VK → Prop := fun xs H Q => ∃ p ys, xs = [.ref p] ∧ (SqL K H p ys ∨ SqT K H p ys) ∧ Q (.int ys.length) H
/-- the built-in names stand -/
structure Bl (mg : Str → Option Value) : Prop where
  len : mg "len" = none
  abs : mg "abs" = none
  range : mg "range" = none
  isinstance : mg "isinstance" = none
  sorted : mg "sorted" = none
  list : mg "list" = none
  set : mg "set" = none
  int : mg "int" = none
  str : mg "str" = none
  max : mg "max" = none
  tuple : mg "tuple" = none
  bool : mg "bool" = none
theorem while_mono {r : R2} {i : Nat} {v : V} {f : Int → Int → Bool} (e : r = rI0 fun i j => .bl (f i j)) : ∀ σ H (Q Q' : Bool → Hp → Prop), (∀ b H1, Q b H1 → Q' b H1) → (tTest (tOp r (tVar i) (tC v))) σ H Q → (tTest (tOp r (tVar i) (tC v))) σ H Q' := by
  subst e
  rintro σ H Q Q' f ⟨v, e, i, j, e1, e2, k, ek, q⟩
  exact ⟨v, e, i, j, e1, e2, k, ek, f _ _ q⟩

/-! ### points as data -/
def ptD (p : P2) : PyData := .tuple [.int p.1, .int p.2]
theorem ptD_lay (p : P2) : (ptD p).canLay0 = true := by simp [ptD, PyData.canLay0, PyData.canLayAll0]
theorem ptD_depth (p : P2) : (ptD p).depth = 1 := by simp [ptD, PyData.depth, PyData.depthAll]
theorem ptDs_lay : ∀ ps : List P2, PyData.canLayAll0 (ps.map ptD) = true
  | [] => by simp [PyData.canLayAll0]
  | p :: ps => by simp [PyData.canLayAll0, ptD_lay p, ptDs_lay ps]
theorem ptDs_depth : ∀ ps : List P2, PyData.depthAll (ps.map ptD) ≤ 1
  | [] => by simp [PyData.depthAll]
  | p :: ps => by
    have h1 := ptDs_depth ps
    have h2 := ptD_depth p
    simp only [List.map_cons, PyData.depthAll]
    omega
theorem ptD_shaped (p : P2) : SeqAt.shaped (ptD p) = true := by
  have h := ptD_depth p
  show ((ptD p).canLay0 && decide ((ptD p).depth ≤ 64)) = true
  rw [Bool.and_eq_true]
  exact ⟨ptD_lay p, decide_eq_true (by omega)⟩
theorem ptDs_shaped (ps : List P2) : SeqAt.shaped (.list (ps.map ptD)) = true := by
  have h1 := ptDs_depth ps
  have h2 : PyData.depth (.list (ps.map ptD)) ≤ 64 := by
    simp only [PyData.depth]
    omega
  show (PyData.canLay0 (.list (ps.map ptD)) && decide (PyData.depth (.list (ps.map ptD)) ≤ 64)) = true
  rw [Bool.and_eq_true]
  exact ⟨by simp only [PyData.canLay0]; exact ptDs_lay ps, decide_eq_true h2⟩
theorem ptD_eqv (p q : P2) : PyData.eqv (ptD p) (ptD q) = decide (p = q) := by
  obtain ⟨a, b⟩ := p
  obtain ⟨c, d⟩ := q
  have e : PyData.eqv (ptD (a, b)) (ptD (c, d)) = ((a == c) && ((b == d) && true)) := by simp only [ptD, PyData.eqv, PyData.eqvAll]
  rw [e]
  by_cases h1 : a = c
  · by_cases h2 : b = d
    · simp [h1, h2]
    · simp [h1, h2]
  · simp [h1]
theorem pt_any (p : P2) : ∀ ps : List P2, ((ps.map ptD).any fun z => PyData.eqv z (ptD p)) = decide (p ∈ ps)
  | [] => by simp
  | q :: ps => by
    rw [List.map_cons, List.any_cons, pt_any p ps, ptD_eqv]
    by_cases h : q = p
    · simp [h]
    · have : ¬ p = q := fun z => h z.symm
      by_cases h2 : p ∈ ps <;> simp [h, h2, this]

/-! ### tuples of ints as data -/
def tiD (ns : List Int) : PyData := .tuple (ns.map .int)
theorem ints_lay : ∀ ns : List Int, PyData.canLayAll0 (ns.map .int) = true
  | [] => by simp [PyData.canLayAll0]
  | n :: ns => by simp [PyData.canLayAll0, PyData.canLay0, ints_lay ns]
theorem ints_depth : ∀ ns : List Int, PyData.depthAll (ns.map .int) = 0
  | [] => by simp [PyData.depthAll]
  | n :: ns => by
    have h := ints_depth ns
    simp only [List.map_cons, PyData.depthAll, PyData.depth]
    omega
theorem tiD_shaped (ns : List Int) : SeqAt.shaped (tiD ns) = true := by
  have h : (tiD ns).depth ≤ 64 := by
    have := ints_depth ns
    simp only [tiD, PyData.depth]
    omega
  show ((tiD ns).canLay0 && decide ((tiD ns).depth ≤ 64)) = true
  rw [Bool.and_eq_true]
  exact ⟨by simp only [tiD, PyData.canLay0]; exact ints_lay ns, decide_eq_true h⟩
theorem ints_eqv : ∀ ns ms : List Int, PyData.eqvAll (ns.map .int) (ms.map .int) = decide (ns = ms)
  | [], [] => by simp [PyData.eqvAll]
  | [], m :: ms => by simp [PyData.eqvAll]
  | n :: ns, [] => by simp [PyData.eqvAll]
  | n :: ns, m :: ms => by
    have ih := ints_eqv ns ms
    simp only [List.map_cons, PyData.eqvAll, PyData.eqv, ih]
    by_cases h : n = m
    · by_cases h2 : ns = ms <;> simp [h, h2]
    · simp [h]
theorem tiD_eqv (ns ms : List Int) : PyData.eqv (tiD ns) (tiD ms) = decide (ns = ms) := by
  show PyData.eqvAll (ns.map .int) (ms.map .int) = _
  exact ints_eqv ns ms
theorem ints_dp {K : PySem.W.Frag} {H : Hp} : ∀ ns : List Int, DpAll K H (ns.map V.int) (ns.map .int)
  | [] => .nil
  | n :: ns => .cons (.int n) (ints_dp ns)
theorem tp_dp {K : PySem.W.Frag} {H : Hp} {v : V} {ns : List Int} (h : Tp K H v (ns.map V.int)) : Dp K H v (tiD ns) := by
  obtain ⟨t, rfl, q⟩ := h
  exact .tup q (ints_dp ns)
theorem pt_dp {K : PySem.W.Frag} {H : Hp} {v : V} {p : P2} (h : Pt K H v p) : Dp K H v (ptD p) := tp_dp (ns := [p.1, p.2]) h
theorem ln_dp {K : PySem.W.Frag} {H : Hp} {v : V} {l : L3} (h : Ln K H v l) : Dp K H v (tiD [l.1, l.2.1, l.2.2]) := tp_dp (ns := [l.1, l.2.1, l.2.2]) h
/-! ### a list of points -/
theorem same_upd {H H' : Hp} {p : Addr} {o : HO} (S : Same H H') (h : H p = none) : Same H (upd H' p o) := fun b u e => by rw [upd_ne (ne_of_none e h)]; exact S b u e
theorem hu65 {k : Nat} {A : Around} (hr : Room k A) : A.units + 65 < cLine := by have := hr.un; omega
/-- at p stands the list of the points ks, each at its address -/
structure PtsL (H : Hp) (p : Addr) (ks : List (Addr × P2)) : Prop where
  lst : H p = some (.lst (ks.map fun k => V.ref k.1))
  tup : ∀ k ∈ ks, H k.1 = some (.tup [.int k.2.1, .int k.2.2])
def ptsOf (ks : List (Addr × P2)) : List P2 := ks.map (·.2)
theorem PtsL.same {H H' : Hp} {p : Addr} {ks : List (Addr × P2)} (S : Same H H') (h : PtsL H p ks) : PtsL H' p ks := ⟨S _ _ h.lst, fun k hk => S _ _ (h.tup k hk)⟩
theorem pts_dpAll {K : PySem.W.Frag} {H : Hp} : ∀ {ks : List (Addr × P2)}, (∀ k ∈ ks, H k.1 = some (.tup [.int k.2.1, .int k.2.2])) → DpAll K H (ks.map fun k => V.ref k.1) ((ptsOf ks).map ptD)
  | [], _ => .nil
  | k :: ks, h => .cons (pt_dp ⟨_, rfl, SqT.of (h k List.mem_cons_self)⟩) (pts_dpAll fun k hk => h k (List.mem_cons_of_mem _ hk))
theorem PtsL.dp {K : PySem.W.Frag} {H : Hp} {p : Addr} {ks : List (Addr × P2)} (h : PtsL H p ks) : Dp K H (.ref p) (.list ((ptsOf ks).map ptD)) := .lst (SqL.of h.lst) (pts_dpAll h.tup)
/-- one more point -/
theorem PtsL.more {H : Hp} {p t : Addr} {ks : List (Addr × P2)} {q : P2} (h : PtsL H p ks) (ht : H t = some (.tup [.int q.1, .int q.2])) : PtsL (upd H p (.lst ((ks.map fun k => V.ref k.1) ++ [.ref t]))) p (ks ++ [(t, q)]) := by
  have ne : ∀ a xs, H a = some (.tup xs) → a ≠ p := fun a xs e => ne_of e h.lst (by intro z; cases z)
  refine ⟨by rw [upd_same, List.map_append]; rfl, fun k hk => ?_⟩
  rcases List.mem_append.mp hk with hk | hk
  · rw [upd_ne (ne _ _ (h.tup k hk))]
    exact h.tup k hk
  · have e : k = (t, q) := by simpa using hk
    rw [e, upd_ne (ne _ _ ht)]
    exact ht
/-- points as the laws draw them -/
def Ok (p : P2) : Prop := -1000000 ≤ p.1 ∧ p.1 ≤ 1000000 ∧ -1000000 ≤ p.2 ∧ p.2 ≤ 1000000
structure PsOk (ps : List P2) : Prop where
  nd : ps.Nodup
  ok : ∀ p ∈ ps, Ok p
  two : 2 ≤ ps.length
/-! ### a tuple of one word -/
def wdD (x : Str) : PyData := .tuple [.str x]
theorem wdD_shaped {x : Str} (h : PyData.strOk x = true) : SeqAt.shaped (wdD x) = true := by
  show ((wdD x).canLay0 && decide ((wdD x).depth ≤ 64)) = true
  simp [wdD, PyData.canLay0, PyData.canLayAll0, PyData.depth, PyData.depthAll, h]
theorem wdD_refl (x : Str) : PyData.eqv (wdD x) (wdD x) = true := by simp [wdD, PyData.eqv, PyData.eqvAll]
theorem wd_dp {K : PySem.W.Frag} {H : Hp} {v : V} {x : Str} (h : Tp K H v [.str x]) : Dp K H v (wdD x) := by
  obtain ⟨t, rfl, q⟩ := h
  exact .tup q (.cons (.str x) .nil)
def lnD (l : L3) : PyData := tiD [l.1, l.2.1, l.2.2]
theorem lnD_shaped (l : L3) : SeqAt.shaped (lnD l) = true := tiD_shaped _
theorem lnD_eqv (l m : L3) : PyData.eqv (lnD l) (lnD m) = decide (l = m) := by
  unfold lnD
  rw [tiD_eqv]
  obtain ⟨a, b, c⟩ := l
  obtain ⟨x, y, z⟩ := m
  by_cases h1 : a = x
  · by_cases h2 : b = y
    · by_cases h3 : c = z
      · simp [h1, h2, h3]
      · simp [h1, h2, h3]
    · simp [h1, h2]
  · simp [h1]
/-! ### small numbers: a line's, a point's; the promise of a line through two points -/
def LnB (l : L3) : Prop := Bd 21 l.1 ∧ Bd 21 l.2.1 ∧ Bd 42 l.2.2
def PtB (p : P2) : Prop := Bd 20 p.1 ∧ Bd 20 p.2
theorem cm_bd {k : Nat} {a b : Int} (h : a ≠ 0 ∨ b ≠ 0) (ha : Bd k a) (hb : Bd k b) : Bd k (cm a b) := by
  rcases h with h | h
  · exact Nat.lt_of_le_of_lt (cm_le_left b h) ha
  · exact Nat.lt_of_le_of_lt (cm_le_right a h) hb
theorem cm3_bd {k : Nat} {a b : Int} (c : Int) (h : a ≠ 0 ∨ b ≠ 0) (ha : Bd k a) (hb : Bd k b) : Bd k (cm (cm a b) c) :=
  Nat.lt_of_le_of_lt (cm_le_left c (by have := cm_pos h; omega)) (cm_bd h ha hb)
def spLine (K : PySem.W.Frag) : Sp := fun vs H Q _ => ∃ (v u : V) (p q : P2), vs = [v, u] ∧ Pt K H v p ∧ Pt K H u q ∧ PtB p ∧ PtB q ∧ p ≠ q ∧
  ∀ t, H t = none → Q (.ref t) (upd H t (.tup [.int (lineOf p q).1, .int (lineOf p q).2.1, .int (lineOf p q).2.2]))
theorem abs_of_dvd {k d x y : Int} (h : x = d * y) (hd : d ≠ 0) : y.natAbs ≤ x.natAbs := by
  rw [h, Int.natAbs_mul]
  exact Nat.le_mul_of_pos_left _ (Int.natAbs_pos.mpr hd)
theorem lineOf_bd {p q : P2} (bp : PtB p) (bq : PtB q) (pq : p ≠ q) : LnB (lineOf p q) := by
  have ba : Bd 21 (q.2 - p.2) := bq.2.sub bp.2
  have bb : Bd 21 (p.1 - q.1) := bp.1.sub bq.1
  have bc : Bd 42 ((q.2 - p.2) * p.1 + (p.1 - q.1) * p.2) := (ba.mul bp.1).add (bb.mul bp.2)
  have na := diff_ne pq
  unfold lineOf
  generalize (q.2 - p.2) * p.1 + (p.1 - q.1) * p.2 = c at bc ⊢
  generalize q.2 - p.2 = a at na ba ⊢
  generalize p.1 - q.1 = b at na bb ⊢
  obtain ⟨h1, h2, h3⟩ := norm3_spec c na
  have hd := dv_ne c na
  exact ⟨Nat.lt_of_le_of_lt (abs_of_dvd (k := 0) h1 hd) ba, Nat.lt_of_le_of_lt (abs_of_dvd (k := 0) h2 hd) bb, Nat.lt_of_le_of_lt (abs_of_dvd (k := 0) h3 hd) bc⟩
theorem Ok.b {p : P2} (h : Ok p) : PtB p := by
  obtain ⟨h1, h2, h3, h4⟩ := h
  constructor
  · show p.1.natAbs < 1048576
    omega
  · show p.2.natAbs < 1048576
    omega
def spLaw (K : PySem.W.Frag) : Sp := fun vs H Q _ => ∃ (a : Addr) (ns : List Int), vs = [.ref a] ∧ SqL K H a (ns.map V.int) ∧ ns.length ≤ 63 ∧ ∀ H', Q (.bl true) H'
theorem pts_at0 {k0 k1 : Addr × P2} {ks : List (Addr × P2)} : atI ((k0 :: k1 :: ks).map fun k => V.ref k.1) 0 = some (.ref k0.1) := atI_nat (j := 0) rfl
theorem pts_at1 {k0 k1 : Addr × P2} {ks : List (Addr × P2)} : atI ((k0 :: k1 :: ks).map fun k => V.ref k.1) 1 = some (.ref k1.1) := atI_nat (j := 1) rfl
/-- the first two of points -/
theorem pts_two {ks : List (Addr × P2)} (h : PsOk (ptsOf ks)) : ∃ k0 k1 kr, ks = k0 :: k1 :: kr ∧ k0.2 ≠ k1.2 ∧ Ok k0.2 ∧ Ok k1.2 := by
  have := h.two
  match ks, this with
  | k0 :: k1 :: kr, _ =>
    refine ⟨k0, k1, kr, rfl, fun e => (List.nodup_cons.mp h.nd).1 (by show k0.2 ∈ _; rw [e]; exact List.mem_cons_self), h.ok _ List.mem_cons_self, h.ok _ (List.mem_cons_of_mem _ List.mem_cons_self)⟩
theorem at_item {α : Type} {f : α → V} {l : List α} {i : Nat} {y : V} (hi : (l.map f)[i]? = some y) : ∃ x, l[i]? = some x ∧ y = f x := by
  rw [List.getElem?_map] at hi
  cases e : l[i]? with
  | none =>
    rw [e] at hi
    cases hi
  | some z =>
    rw [e] at hi
    exact ⟨z, rfl, (Option.some.inj hi).symm⟩
theorem pt0 {K : PySem.W.Frag} {H : Hp} {t : Addr} {x : P2} (h : H t = some (.tup [.int x.1, .int x.2])) : Pt K H (.ref t) x := ⟨t, rfl, SqT.of h⟩
end Tw
namespace Tw
/-! ### the lines of points, as the program gathers them -/
def addK (ks : List L3) (l : L3) : List L3 := if l ∈ ks then ks else ks ++ [l]
def ded (l : List L3) : List L3 := l.foldl addK []
theorem ded_snoc (l : List L3) (x : L3) : ded (l ++ [x]) = addK (ded l) x := by
  unfold ded
  rw [List.foldl_append]
  rfl
theorem mem_addK {ks : List L3} {l x : L3} : x ∈ addK ks l ↔ x ∈ ks ∨ x = l := by
  unfold addK
  split
  · constructor
    · exact .inl
    · rintro (h | h)
      · exact h
      · rw [h]; assumption
  · rw [List.mem_append, List.mem_singleton]
theorem nodup_addK {ks : List L3} {l : L3} (h : ks.Nodup) : (addK ks l).Nodup := by
  unfold addK
  split
  · exact h
  · rename_i n
    refine List.nodup_append.mpr ⟨h, by simp, fun x hx y hy e => ?_⟩
    have ey : y = l := by simpa using hy
    exact n (by rw [← ey, ← e]; exact hx)
theorem length_addK (ks : List L3) (l : L3) : (addK ks l).length ≤ ks.length + 1 := by
  unfold addK
  split
  · omega
  · rw [List.length_append]; exact Nat.le_refl _
theorem ded_facts : ∀ (l acc : List L3), acc.Nodup → (l.foldl addK acc).Nodup ∧ (∀ x, x ∈ l.foldl addK acc ↔ x ∈ acc ∨ x ∈ l) ∧ (l.foldl addK acc).length ≤ acc.length + l.length
  | [], acc, h => ⟨h, fun x => by simp, by simp⟩
  | a :: l, acc, h => by
    obtain ⟨h1, h2, h3⟩ := ded_facts l (addK acc a) (nodup_addK h)
    refine ⟨h1, fun x => ?_, ?_⟩
    · show x ∈ l.foldl addK (addK acc a) ↔ _
      rw [h2, mem_addK, List.mem_cons, or_assoc]
    · show (l.foldl addK (addK acc a)).length ≤ _
      have := length_addK acc a
      simp only [List.length_cons]
      omega
theorem nodup_ded (l : List L3) : (ded l).Nodup := (ded_facts l [] List.nodup_nil).1
theorem mem_ded {l : List L3} {x : L3} : x ∈ ded l ↔ x ∈ l := by
  have := (ded_facts l [] List.nodup_nil).2.1 x
  unfold ded
  rw [this]
  simp
theorem length_ded (l : List L3) : (ded l).length ≤ l.length := by
  have := (ded_facts l [] List.nodup_nil).2.2
  unfold ded
  simpa using this
def ptAt (ps : List P2) (k : Nat) : P2 := ps.getD k (0, 0)
def lnAt (ps : List P2) (j k : Nat) : L3 := lineOf (ptAt ps j) (ptAt ps k)
def rowSeq (ps : List P2) (k j : Nat) : List L3 := (List.range j).map fun i => lnAt ps i k
def allSeq (ps : List P2) (k : Nat) : List L3 := (List.range k).flatMap fun k' => rowSeq ps k' k'
theorem rowSeq_succ (ps : List P2) (k j : Nat) : rowSeq ps k (j + 1) = rowSeq ps k j ++ [lnAt ps j k] := by
  unfold rowSeq
  rw [List.range_succ, List.map_append]
  rfl
theorem allSeq_succ (ps : List P2) (k : Nat) : allSeq ps (k + 1) = allSeq ps k ++ rowSeq ps k k := by
  unfold allSeq
  rw [List.range_succ, List.flatMap_append]
  simp
theorem length_rowSeq (ps : List P2) (k j : Nat) : (rowSeq ps k j).length = j := by
  unfold rowSeq
  rw [List.length_map, List.length_range]
theorem length_allSeq (ps : List P2) : ∀ k, (allSeq ps k).length ≤ k * k
  | 0 => by simp [allSeq]
  | k + 1 => by
    rw [allSeq_succ, List.length_append, length_rowSeq]
    have := length_allSeq ps k
    have e : (k + 1) * (k + 1) = k * k + 2 * k + 1 := by grind
    omega
theorem ptAt_get {ps : List P2} {k : Nat} (h : k < ps.length) : ptAt ps k = ps[k] := by
  unfold ptAt
  rw [List.getD_eq_getElem?_getD, List.getElem?_eq_getElem h]
  rfl
theorem ptAt_mem {ps : List P2} {k : Nat} (h : k < ps.length) : ptAt ps k ∈ ps := by
  rw [ptAt_get h]; exact List.getElem_mem h
theorem ptAt_ne {ps : List P2} (hn : ps.Nodup) {j k : Nat} (hj : j < ps.length) (hk : k < ps.length) (h : j ≠ k) : ptAt ps j ≠ ptAt ps k := by
  rw [ptAt_get hj, ptAt_get hk]
  intro e
  exact h ((List.getElem_inj hn).mp e)
theorem ptAt_of_mem {ps : List P2} {p : P2} (h : p ∈ ps) : ∃ k, k < ps.length ∧ ptAt ps k = p := by
  obtain ⟨k, hk, e⟩ := List.getElem_of_mem h
  exact ⟨k, hk, by rw [ptAt_get hk]; exact e⟩
theorem mem_allSeq {ps : List P2} {n : Nat} {l : L3} : l ∈ allSeq ps n ↔ ∃ k, k < n ∧ ∃ j, j < k ∧ l = lnAt ps j k := by
  unfold allSeq rowSeq
  constructor
  · intro h
    obtain ⟨k, hk, h⟩ := List.mem_flatMap.mp h
    obtain ⟨j, hj, e⟩ := List.mem_map.mp h
    exact ⟨k, List.mem_range.mp hk, j, List.mem_range.mp hj, e.symm⟩
  · rintro ⟨k, hk, j, hj, e⟩
    exact List.mem_flatMap.mpr ⟨k, List.mem_range.mpr hk, List.mem_map.mpr ⟨j, List.mem_range.mpr hj, e.symm⟩⟩
def keysOf (ps : List P2) : List L3 := ded (allSeq ps ps.length)
def linesOf (le : L3 → L3 → Bool) (ps : List P2) : List L3 := (keysOf ps).mergeSort le
theorem mem_linesOf {le : L3 → L3 → Bool} {ps : List P2} {l : L3} : l ∈ linesOf le ps ↔ ∃ k, k < ps.length ∧ ∃ j, j < k ∧ l = lnAt ps j k := by
  unfold linesOf keysOf
  rw [List.mem_mergeSort, mem_ded, mem_allSeq]
theorem linesFor (le : L3 → L3 → Bool) {ps : List P2} (hn : ps.Nodup) : LinesFor ps (linesOf le ps) := by
  refine ⟨(List.mergeSort_perm _ _).nodup_iff.mpr (nodup_ded _), fun l => ?_⟩
  rw [mem_linesOf]
  constructor
  · rintro ⟨k, hk, j, hj, e⟩
    exact ⟨ptAt ps j, ptAt_mem (by omega), ptAt ps k, ptAt_mem hk, ptAt_ne hn (by omega) hk (by omega), e⟩
  · rintro ⟨p, hp, q, hq, hpq, e⟩
    obtain ⟨i, hi, rfl⟩ := ptAt_of_mem hp
    obtain ⟨j, hj, rfl⟩ := ptAt_of_mem hq
    rcases Nat.lt_trichotomy i j with h | h | h
    · exact ⟨j, hj, i, h, e⟩
    · exact absurd (by rw [h]) hpq
    · refine ⟨i, hi, j, h, ?_⟩
      rw [e]
      exact lineOf_comm (Ne.symm hpq)
theorem length_linesOf (le : L3 → L3 → Bool) (ps : List P2) : (linesOf le ps).length ≤ ps.length * ps.length := by
  unfold linesOf keysOf
  rw [List.length_mergeSort]
  exact Nat.le_trans (length_ded _) (length_allSeq ps _)
/-- the places of the points on a line -/
def placesN (ps : List P2) (l : L3) (n : Nat) : List Nat := (List.range n).filter fun k => decide (On l (ptAt ps k))
def places (ps : List P2) (l : L3) : List Nat := placesN ps l ps.length
theorem placesN_succ (ps : List P2) (l : L3) (n : Nat) : placesN ps l (n + 1) = if On l (ptAt ps n) then placesN ps l n ++ [n] else placesN ps l n := by
  unfold placesN
  rw [List.range_succ, List.filter_append]
  by_cases h : On l (ptAt ps n)
  · rw [if_pos h]
    simp [h]
  · rw [if_neg h]
    simp [h]
theorem length_placesN (ps : List P2) (l : L3) (n : Nat) : (placesN ps l n).length ≤ n := by
  have := List.length_filter_le (fun k => decide (On l (ptAt ps k))) (List.range n)
  rw [List.length_range] at this
  exact this
theorem mem_places {ps : List P2} {l : L3} {k : Nat} : k ∈ places ps l ↔ k < ps.length ∧ On l (ptAt ps k) := by
  unfold places placesN
  rw [List.mem_filter, List.mem_range, decide_eq_true_eq]
theorem nodup_places (ps : List P2) (l : L3) : (places ps l).Nodup := List.nodup_range.filter _
def rowsOf (le : L3 → L3 → Bool) (ps : List P2) : List (L3 × List Nat) := (linesOf le ps).map fun l => (l, places ps l)
end Tw
namespace Tw
open PySem PySem.Spec PyProof.Rows L2

/-! ### sorted(lines) -/
def leL : L3 → L3 → Bool := PySem.W.dataLe false fun l => lnD l
theorem each_refs : ∀ {zs : List (Addr × L3)} {us : List Value}, Vals (zs.map fun z => V.ref z.1) us → PySem.W.EachIs (fun v (z : Addr × L3) => v = Value.ref z.1) us zs
  | [], _, .nil => .nil
  | z :: zs, _, .cons r t => by
    cases r
    exact .cons rfl (each_refs t)
theorem each_vals : ∀ {zs : List (Addr × L3)} {us : List Value}, PySem.W.EachIs (fun v (z : Addr × L3) => v = Value.ref z.1) us zs → Vals (zs.map fun z => V.ref z.1) us
  | [], _, .nil => .nil
  | z :: zs, _, .cons r t => .cons r (each_vals t)
theorem each_and {α β : Type} {R S : α → β → Prop} : ∀ {as : List α} {bs : List β}, PySem.W.EachIs R as bs → (∀ b ∈ bs, ∀ a, R a b → S a b) → PySem.W.EachIs S as bs
  | _, _, .nil, _ => .nil
  | _, _, .cons r t, h => .cons (h _ List.mem_cons_self _ r) (each_and t fun b hb a q => h b (List.mem_cons_of_mem _ hb) a q)
def rSortedL (K : PySem.W.Frag) : List V → Hp → VK → Prop := fun vs H Q => ∃ (a : Addr) (zs : List (Addr × L3)), vs = [V.ref a] ∧ SqL K H a (zs.map fun z => V.ref z.1) ∧ (∀ z ∈ zs, H z.1 = some (.tup [.int z.2.1, .int z.2.2.1, .int z.2.2.2])) ∧
  ∀ p, H p = none → Q (.ref p) (upd H p (.lst ((zs.mergeSort fun x y => leL x.2 y.2).map fun z => V.ref z.1)))
theorem cr_sortedL {X : Cx} (hu : X.A.units + 64 < cLine) : CallR X (.builtin "sorted") (rSortedL X.K) := by
  intro pins s σ H vs us Q I r h
  obtain ⟨a, zs, rfl, hs, hx, q⟩ := h
  obtain ⟨its, rv, hl, hz⟩ := I.list hs
  obtain ⟨u, rfl, ru⟩ := vals1 r
  obtain rfl : u = Value.ref a := ru
  have hlen : zs.length ≤ sizeLine := by rw [List.length_map] at hz; exact hz
  have e := each_refs rv
  refine PySem.W.sorted_data (R := fun v (z : Addr × L3) => v = Value.ref z.1) (enc := fun z : Addr × L3 => lnD z.2) hl.isList e ?_ ?_ ?_ hlen ?_ fun out ho ee => ?_
  · refine each_and e fun z hz v hv => ?_
    exact Dp.reads I (lnD z.2) (.ref z.1) v (ln_dp ⟨z.1, rfl, SqT.of (hx z hz)⟩) hv
  · exact PySem.W.AllAlike.of fun b b' => by
      show PySem.W.alikeAll ([b.2.1, b.2.2.1, b.2.2.2].map .int) ([b'.2.1, b'.2.2.1, b'.2.2.2].map .int) = true
      exact PySem.W.alike_ints _ _
  · exact PySem.W.Sortable.tuples fun b => ⟨.int b.2.1, [.int b.2.2.1, .int b.2.2.2], rfl⟩
  · intro b _
    have : (lnD b.2).depth ≤ 1 := by
      have := ints_depth [b.2.1, b.2.2.1, b.2.2.2]
      simp only [lnD, tiD, PyData.depth]
      omega
    show X.A.units + 2 + (lnD b.2).depth < cLine
    omega
  · obtain ⟨n, hn⟩ := PyProof.Rows.sortedAll_at s.heap its out.toArray
    have hv := each_vals ee
    have hf : H (s.heap.objs.size + 1) = none := I.hok.fresh (Nat.le_succ _)
    refine ⟨.ref (s.heap.objs.size + 1), _, I.laid (a := s.heap.objs.size + 1) (o := .lst ((zs.mergeSort fun x y => leL x.2 y.2).map fun z => V.ref z.1)) (t' := s.toks) (fun _ _ => PyProof.Rows.sortedAll_old) (Nat.le_succ _) ?_, rfl, q _ hf⟩
    refine ⟨?_, out, n, hv, hn⟩
    rw [List.length_map, List.length_mergeSort]
    exact hlen
/-! ### len(set(points)) -/
def tLenSetT (K : PySem.W.Frag) (ta : TE) : TE := fun σ H Q => ta σ H fun x H1 => ∃ (l : Addr) (ks : List (Addr × List Int)), x = V.ref l ∧ SqL K H1 l (ks.map fun p => V.ref p.1) ∧ (∀ p ∈ ks, SqT K H1 p.1 (p.2.map V.int)) ∧ ks.length < 64 ∧
  ∀ L : List (Addr × List Int), (∀ p ∈ L, p ∈ ks) → (∀ p ∈ ks, p.2 ∈ L.map (·.2)) → (L.map (·.2)).Nodup → Q (.int L.length) H1
theorem pe_lenSetT {X : Cx} {a : Expr} {ta : TE} {p p2 q pos : Pos} (hc : X.calm = true) (hu : X.A.units + 64 < cLine) (hg : Gl X "len") (hm : X.mg "len" = none) (hg2 : Gl X "set") (hm2 : X.mg "set" = none) (ha : PE X a ta)
    (na : starEach [a] X.env = (false, eval a X.env) :: starEach [] X.env := by rfl) : PE X (.Call (.Name "len" p) [.Call (.Name "set" p2) [a] [] q] [] pos) (tLenSetT X.K ta) := by
  refine ⟨fun pins s σ H Q I h => ?_⟩
  refine Call_ (ld_blt I hg hm PySem.boot_len ?_)
  refine PyProof.Rows.callWith_builtin1 (PyProof.Rows.args_cons ?_ rfl) rfl rfl
  refine Call_ (ld_blt I hg2 hm2 PyProof.Rows.boot_set ?_)
  refine PyProof.Rows.callWith_type1 (PyProof.Rows.args_cons (thn (ha.run pins s σ H _ I h) fun v s1 ⟨x, H1, I1, r1, q1⟩ => PyProof.Rows.args_nil ?_) na) na rfl
  obtain ⟨l, ks, rfl, hl, hk, hf, q1⟩ := q1
  cases r1
  obtain ⟨its, rv, pl, hz⟩ := I1.list hl
  refine call_set_tups (P := X.prog) (w := X.w) ks (I1.ok.hd hc) pl.isList (by simpa using refs_of_vals rv) (fun p hp => L2.Inv.isT I1 (hk p hp)) hf (by omega) fun h' tk L es ep t R g k => ?_
  refine PyProof.Rows.args_nil ?_
  have I2 : Inv X pins σ H1 { s1 with heap := h', toks := tk } := I1.kept k
  obtain ⟨o, ho, hex, hd⟩ := R.ob
  have hsz := SetTR.size (s := { s1 with heap := h', toks := tk }) R
  have hft := SetTR.fits (s := { s1 with heap := h', toks := tk }) R
  have hfew := R.few
  refine call_len_set ho hex hd hft (by rw [hsz] <;> omega) ⟨.int L.length, H1, I2.tok _, ⟨_, by rw [hsz]⟩, q1 L (fun p hp => List.mem_of_mem_take (g.sub p hp)) (fun p hp => g.all p (by rw [List.take_length]; exact hp)) R.nd⟩
/-! ### the dict of lines -/
def encK (l : L3) : List Key := [.inl l.1, .inl l.2.1, .inl l.2.2]
theorem encK_kV (l : L3) : (encK l).map kV = [V.int l.1, V.int l.2.1, V.int l.2.2] := rfl
theorem encK_inj {l m : L3} (h : encK l = encK m) : l = m := by
  obtain ⟨a, b, c⟩ := l
  obtain ⟨x, y, z⟩ := m
  injection h with h1 h
  injection h with h2 h
  injection h with h3 _
  injection h1 with h1
  injection h2 with h2
  injection h3 with h3
  dsimp only at h1 h2 h3
  rw [h1, h2, h3]
def kvL (ks : List L3) : List (List Key × V) := ks.map fun l => (encK l, V.bl true)
theorem kvL_any (ks : List L3) (l : L3) : ((kvL ks).any fun kv => decide (kv.1 = encK l)) = decide (l ∈ ks) := by
  induction ks with
  | nil => simp [kvL]
  | cons m ks ih =>
    show (decide (encK m = encK l) || (kvL ks).any fun kv => decide (kv.1 = encK l)) = _
    rw [ih]
    by_cases h : m = l
    · subst h; simp
    · have h' : ¬ encK m = encK l := fun z => h (encK_inj z)
      have h2 : ¬ l = m := fun z => h z.symm
      by_cases h3 : l ∈ ks <;> simp [h', h2, h3]
theorem kvL_put (ks : List L3) (l : L3) : putK (kvL ks) (encK l) (.bl true) = kvL (addK ks l) := by
  unfold putK
  rw [kvL_any]
  by_cases h : l ∈ ks
  · rw [if_pos (decide_eq_true h)]
    unfold addK
    rw [if_pos h]
    unfold kvL
    rw [List.map_map]
    refine List.map_congr_left fun m _ => ?_
    show (if encK m = encK l then (encK m, V.bl true) else (encK m, V.bl true)) = _
    split <;> rfl
  · rw [if_neg (by rw [decide_eq_false h]; decide)]
    unfold addK
    rw [if_neg h]
    unfold kvL
    rw [List.map_append]
    rfl
theorem length_kvL (ks : List L3) : (kvL ks).length = ks.length := List.length_map _
/-- the key tuples, each with its line -/
theorem keys_zip {H : Hp} : ∀ {ks : List L3} {bs : List Addr}, IsKeys H (kvL ks) bs → ∃ zs : List (Addr × L3), bs.map V.ref = zs.map (fun z => V.ref z.1) ∧ zs.map (·.2) = ks ∧ ∀ z ∈ zs, H z.1 = some (.tup [.int z.2.1, .int z.2.2.1, .int z.2.2.2])
  | [], _, .nil => ⟨[], rfl, rfl, fun z hz => by cases hz⟩
  | l :: ks, _, .cons (b := b) r t => by
    obtain ⟨zs, h1, h2, h3⟩ := keys_zip t
    refine ⟨(b, l) :: zs, ?_, ?_, fun z hz => ?_⟩
    · rw [List.map_cons, List.map_cons, h1]
    · rw [List.map_cons, h2]
    · rcases List.mem_cons.mp hz with e | hz
      · rw [e]
        exact r
      · exact h3 z hz
/-! ### told rows -/
/-- a row: its tuple, its line's tuple, its list of places; the line, the places -/
abbrev RowA := Addr × Addr × Addr × L3 × List Nat
def rowOf (r : RowA) : L3 × List Nat := (r.2.2.2.1, r.2.2.2.2)
def plV (l : List Nat) : List V := l.map fun k => V.int (k : Nat)
structure RowsL (H : Hp) (R : Addr) (rs : List RowA) : Prop where
  lst : H R = some (.lst (rs.map fun r => V.ref r.1))
  row : ∀ r ∈ rs, H r.1 = some (.tup [.ref r.2.1, .ref r.2.2.1])
  ln : ∀ r ∈ rs, H r.2.1 = some (.tup [.int r.2.2.2.1.1, .int r.2.2.2.1.2.1, .int r.2.2.2.1.2.2])
  pl : ∀ r ∈ rs, H r.2.2.1 = some (.lst (plV r.2.2.2.2))
theorem RowsL.same {H H' : Hp} {R : Addr} {rs : List RowA} (S : Same H H') (h : RowsL H R rs) : RowsL H' R rs :=
  ⟨S _ _ h.lst, fun r hr => S _ _ (h.row r hr), fun r hr => S _ _ (h.ln r hr), fun r hr => S _ _ (h.pl r hr)⟩
theorem RowsL.more {H : Hp} {R : Addr} {rs : List RowA} {r : RowA} (h : RowsL H R rs) (h1 : H r.1 = some (.tup [.ref r.2.1, .ref r.2.2.1])) (h2 : H r.2.1 = some (.tup [.int r.2.2.2.1.1, .int r.2.2.2.1.2.1, .int r.2.2.2.1.2.2]))
    (h3 : H r.2.2.1 = some (.lst (plV r.2.2.2.2))) (ne : r.2.2.1 ≠ R) (nes : ∀ r ∈ rs, r.2.2.1 ≠ R) : RowsL (upd H R (.lst ((rs.map fun r => V.ref r.1) ++ [.ref r.1]))) R (rs ++ [r]) := by
  have nt : ∀ a xs, H a = some (.tup xs) → a ≠ R := fun a xs e => ne_of e h.lst (by intro z; cases z)
  have split : ∀ x ∈ rs ++ [r], x ∈ rs ∨ x = r := fun x hx => by
    rcases List.mem_append.mp hx with hx | hx
    · exact .inl hx
    · exact .inr (by simpa using hx)
  refine ⟨by rw [upd_same, List.map_append]; rfl, fun x hx => ?_, fun x hx => ?_, fun x hx => ?_⟩
  · rcases split x hx with hx | rfl
    · rw [upd_ne (nt _ _ (h.row x hx))]; exact h.row x hx
    · rw [upd_ne (nt _ _ h1)]; exact h1
  · rcases split x hx with hx | rfl
    · rw [upd_ne (nt _ _ (h.ln x hx))]; exact h.ln x hx
    · rw [upd_ne (nt _ _ h2)]; exact h2
  · rcases split x hx with hx | rfl
    · rw [upd_ne (nes x hx)]; exact h.pl x hx
    · rw [upd_ne ne]; exact h3
theorem atI_map {α : Type} {f : α → V} {l : List α} {j : Nat} {x : α} (h : l[j]? = some x) : atI (l.map f) (j : Int) = some (f x) := by
  refine atI_nat ?_
  rw [List.getElem?_map, h]
  rfl
/-- the k-th of the points ks -/
theorem pts_at {ks : List (Addr × P2)} {k : Nat} (h : k < ks.length) : ∃ t, ks[k]? = some (t, ptAt (ptsOf ks) k) ∧ (t, ptAt (ptsOf ks) k) ∈ ks := by
  have e : ks[k]? = some ks[k] := List.getElem?_eq_getElem h
  have e2 : ptAt (ptsOf ks) k = ks[k].2 := by
    unfold ptAt ptsOf
    rw [List.getD_eq_getElem?_getD, List.getElem?_map, e]
    rfl
  refine ⟨ks[k].1, ?_, ?_⟩
  · rw [e2]; exact e
  · rw [e2]; exact List.getElem_mem h
/-! ### lists of points, of places as data -/
theorem ptDs_eqv : ∀ ps qs : List P2, PyData.eqvAll (ps.map ptD) (qs.map ptD) = decide (ps = qs)
  | [], [] => by simp [PyData.eqvAll]
  | [], q :: qs => by simp [PyData.eqvAll]
  | p :: ps, [] => by simp [PyData.eqvAll]
  | p :: ps, q :: qs => by
    have ih := ptDs_eqv ps qs
    simp only [List.map_cons, PyData.eqvAll, ptD_eqv, ih]
    by_cases h : p = q
    · by_cases h2 : ps = qs <;> simp [h, h2]
    · simp [h]
theorem pts_eqv (ps qs : List P2) : PyData.eqv (.list (ps.map ptD)) (.list (qs.map ptD)) = decide (ps = qs) := by
  show PyData.eqvAll _ _ = _
  exact ptDs_eqv ps qs
def natI (l : List Nat) : List Int := l.map Int.ofNat
theorem natI_inj {l m : List Nat} (h : natI l = natI m) : l = m := by
  refine (List.map_inj_right (f := Int.ofNat) fun x y e => ?_).mp h
  exact Int.ofNat.inj e
theorem plV_eq (l : List Nat) : plV l = (natI l).map V.int := by
  unfold plV natI
  rw [List.map_map]
  rfl
def plD (l : List Nat) : PyData := .list ((natI l).map .int)
theorem plD_lay (l : List Nat) : (plD l).canLay0 = true := by
  simp only [plD, PyData.canLay0]
  exact ints_lay _
theorem plD_depth (l : List Nat) : (plD l).depth = 1 := by
  have := ints_depth (natI l)
  simp only [plD, PyData.depth]
  omega
theorem plD_shaped (l : List Nat) : SeqAt.shaped (plD l) = true := by
  have h := plD_depth l
  show ((plD l).canLay0 && decide ((plD l).depth ≤ 64)) = true
  rw [Bool.and_eq_true]
  exact ⟨plD_lay l, decide_eq_true (by omega)⟩
theorem plD_eqv (l m : List Nat) : PyData.eqv (plD l) (plD m) = decide (l = m) := by
  show PyData.eqvAll _ _ = _
  rw [ints_eqv]
  by_cases h : l = m
  · rw [decide_eq_true h, decide_eq_true (by rw [h])]
  · rw [decide_eq_false h, decide_eq_false (fun z => h (natI_inj z))]
theorem pl_dp {K : PySem.W.Frag} {H : Hp} {a : Addr} {l : List Nat} (h : H a = some (.lst (plV l))) : Dp K H (.ref a) (plD l) := by
  rw [plV_eq] at h
  exact .lst (SqL.of h) (ints_dp _)
theorem plDs_lay : ∀ ls : List (List Nat), PyData.canLayAll0 (ls.map plD) = true
  | [] => by simp [PyData.canLayAll0]
  | l :: ls => by simp [PyData.canLayAll0, plD_lay l, plDs_lay ls]
theorem plDs_depth : ∀ ls : List (List Nat), PyData.depthAll (ls.map plD) ≤ 1
  | [] => by simp [PyData.depthAll]
  | l :: ls => by
    have h1 := plDs_depth ls
    have h2 := plD_depth l
    simp only [List.map_cons, PyData.depthAll]
    omega
theorem plDs_shaped (ls : List (List Nat)) : SeqAt.shaped (.list (ls.map plD)) = true := by
  have h1 := plDs_depth ls
  have h2 : PyData.depth (.list (ls.map plD)) ≤ 64 := by
    simp only [PyData.depth]
    omega
  show (PyData.canLay0 (.list (ls.map plD)) && decide (PyData.depth (.list (ls.map plD)) ≤ 64)) = true
  rw [Bool.and_eq_true]
  exact ⟨by simp only [PyData.canLay0]; exact plDs_lay ls, decide_eq_true h2⟩
theorem pls_any {l : List Nat} {ls : List (List Nat)} (h : l ∈ ls) : ((ls.map plD).any fun z => PyData.eqv z (plD l)) = true :=
  List.any_eq_true.mpr ⟨plD l, List.mem_map.mpr ⟨l, h, rfl⟩, by rw [plD_eqv]; exact decide_eq_true rfl⟩
theorem cut_one (x : V) (xs : List V) : cutV (x :: xs) (some 1) none = xs := by
  unfold cutV
  have h1 : HT.sIx (x :: xs).length 0 (some 1) = 1 := by
    have h := HT.sIx_nat (x :: xs).length 0 1
    have e : min 1 (x :: xs).length = 1 := by
      simp only [List.length_cons]
      omega
    rw [← e]
    exact h
  rw [h1, HT.sIx_none]
  show List.take ((x :: xs).length - 1) xs = xs
  exact List.take_of_length_le (by simp)
/-! ### the end, where the top holds a reckoned number -/
/-- as the layer's own end, but the facts about reckoned names are handed on -/
theorem walkX {l : PySem.W.OpenLaw} {k : Nat} {q : Program} {loose : List Str} {XQ : (Str → Option Value) → Heap → Prop} {YQ : World → Heap → Prop} {dr : DefRec} {KK : Params → PySem.W.Frag} {cx : CXT} {pr : PySem.W.Frag → Sp}
    (most : l.most = some 63) (nodef : dr.params.defaults = []) (room : Room k callerA) (into : ∀ (w : World) (h : Heap), YQ w h → (KK w.params).In h)
    (fn : ∀ (w : World) (mg : Str → Option Value) (fa : Addr) (h : Heap), (KK w.params).In h → h.Ns mainGlobals mg → XQ mg h → mg dr.name = some (.ref fa) →
      ∃ fd : FuncData, (∀ (s : Shared) (u : Value), BindsTo s fd ⟨[u], []⟩ [("script", u)]) ∧ ∀ base : Heap, (KK w.params).In base → base.Ns mainGlobals mg → FnOk l.prog w (KK w.params) mg base cx k fa fd ["script"] (pr (KK w.params)))
    (ends : ∀ (K : PySem.W.Frag) (H : Hp) (a : Addr) (ns : List Int), ns.length ≤ 63 → SqL K H a (ns.map V.int) → pr K [.ref a] H (fun v _ => v = .bl true) fun _ _ _ => False)
    (noexc : ∀ (H : Hp) (s : Shared) (e : Value) (s' : Shared), cx [] H s (fun _ _ _ => False) e s' → False) :
    PySem.W.WalkO q loose XQ YQ l.row.toRowW dr [] fun f vs => PySem.call f vs := by
  refine Att.attach_call most nodef fun w s0 s1 mg mb fa ob pm cd doc a vs ns Gr Yw hob hdt hcode hname hscript hints hlen hgens => ?_
  have inK := into w _ Yw
  obtain ⟨fd, binds, keeps⟩ := fn w mg fa _ inK Gr.T.g Gr.X hname
  refine law_call inK Gr.T.g Gr.T.b Gr.T.builtins Gr.T.nolimit hgens hscript hints (Nat.le_trans hlen (by decide)) room keeps binds (fun H _ hS => ?_) (fun H e s' => ?_)
  · exact ends (KK w.params) H a ns hlen hS
  · exact noexc H s1 e s'
theorem far_of {p : Program} {mg : Str → Option Value} {h : Heap} {r : List (Str × PySem.W.WData)} (x : PySem.W.XL p (("FARTHEST", .int 1000000) :: r) mg h) : ∃ t, mg "FARTHEST" = some (.int 1000000 t) := by
  obtain ⟨v, a, b⟩ := x.2.val _ List.mem_cons_self
  obtain ⟨t, rfl, _⟩ := PySem.W.readsW_int_inv b
  exact ⟨t, a⟩
end Tw
namespace Tw
/-! ### the pairs of places in the rows -/
def plAt (pl : List Nat) (k : Nat) : Nat := pl.getD k 0
def rowP (pl : List Nat) (k j : Nat) : List (Nat × Nat) := (List.range j).map fun j' => (plAt pl j', plAt pl k)
def pairsN (pl : List Nat) (k : Nat) : List (Nat × Nat) := (List.range k).flatMap fun k' => rowP pl k' k'
def pairsOf (pl : List Nat) : List (Nat × Nat) := pairsN pl pl.length
def allP (rs : List (L3 × List Nat)) : List (Nat × Nat) := rs.flatMap fun r => pairsOf r.2
theorem rowP_succ (pl : List Nat) (k j : Nat) : rowP pl k (j + 1) = rowP pl k j ++ [(plAt pl j, plAt pl k)] := by
  unfold rowP
  rw [List.range_succ, List.map_append]
  rfl
theorem pairsN_succ (pl : List Nat) (k : Nat) : pairsN pl (k + 1) = pairsN pl k ++ rowP pl k k := by
  unfold pairsN
  rw [List.range_succ, List.flatMap_append]
  simp
theorem length_rowP (pl : List Nat) (k j : Nat) : (rowP pl k j).length = j := by
  unfold rowP
  rw [List.length_map, List.length_range]
theorem length_pairsN (pl : List Nat) : ∀ k, 2 * (pairsN pl k).length = k * (k - 1)
  | 0 => rfl
  | k + 1 => by
    rw [pairsN_succ, List.length_append, length_rowP, Nat.mul_add, length_pairsN pl k]
    cases k with
    | zero => rfl
    | succ k =>
      show (k + 1) * k + 2 * (k + 1) = (k + 1 + 1) * (k + 1)
      grind
theorem allP_succ {rs : List (L3 × List Nat)} {i : Nat} {r : L3 × List Nat} (h : rs[i]? = some r) : allP (rs.take (i + 1)) = allP (rs.take i) ++ pairsOf r.2 := by
  unfold allP
  rw [List.take_add_one, h, List.flatMap_append]
  simp
theorem rowP_prefix (pl : List Nat) (k : Nat) : ∀ {j m : Nat}, j ≤ m → rowP pl k j <+: rowP pl k m := by
  intro j m h
  induction h with
  | refl => exact List.prefix_rfl
  | step _ ih => rw [rowP_succ]; exact ih.trans (List.prefix_append _ _)
theorem pairsN_prefix (pl : List Nat) : ∀ {j m : Nat}, j ≤ m → pairsN pl j <+: pairsN pl m := by
  intro j m h
  induction h with
  | refl => exact List.prefix_rfl
  | step _ ih => rw [pairsN_succ]; exact ih.trans (List.prefix_append _ _)
theorem allP_prefix (rs : List (L3 × List Nat)) (i : Nat) : allP (rs.take i) <+: allP rs := by
  refine ⟨allP (rs.drop i), ?_⟩
  unfold allP
  rw [← List.flatMap_append, List.take_append_drop]
/-- what has been gathered, with the next pair, stands at the head of all -/
theorem next_prefix {rs : List (L3 × List Nat)} {i k j : Nat} {r : L3 × List Nat} (h : rs[i]? = some r) (hk : k < r.2.length) (hj : j < k) :
    allP (rs.take i) ++ (pairsN r.2 k ++ rowP r.2 k j) ++ [(plAt r.2 j, plAt r.2 k)] <+: allP rs := by
  have h1 : pairsN r.2 k ++ rowP r.2 k j ++ [(plAt r.2 j, plAt r.2 k)] <+: pairsOf r.2 := by
    rw [List.append_assoc, ← rowP_succ]
    have h2 : pairsN r.2 k ++ rowP r.2 k (j + 1) <+: pairsN r.2 (k + 1) := by
      rw [pairsN_succ]
      exact (List.prefix_append_right_inj _).mpr (rowP_prefix _ _ hj)
    exact h2.trans (pairsN_prefix _ hk)
  have h3 : allP (rs.take i) ++ (pairsN r.2 k ++ rowP r.2 k j ++ [(plAt r.2 j, plAt r.2 k)]) <+: allP (rs.take (i + 1)) := by
    rw [allP_succ h]
    exact (List.prefix_append_right_inj _).mpr h1
  rw [List.append_assoc]
  exact h3.trans (allP_prefix rs (i + 1))
theorem mem_pairsN {pl : List Nat} {n : Nat} {x : Nat × Nat} : x ∈ pairsN pl n ↔ ∃ k, k < n ∧ ∃ j, j < k ∧ x = (plAt pl j, plAt pl k) := by
  unfold pairsN rowP
  constructor
  · intro h
    obtain ⟨k, hk, h⟩ := List.mem_flatMap.mp h
    obtain ⟨j, hj, e⟩ := List.mem_map.mp h
    exact ⟨k, List.mem_range.mp hk, j, List.mem_range.mp hj, e.symm⟩
  · rintro ⟨k, hk, j, hj, e⟩
    exact List.mem_flatMap.mpr ⟨k, List.mem_range.mpr hk, List.mem_map.mpr ⟨j, List.mem_range.mpr hj, e.symm⟩⟩
theorem plAt_get {pl : List Nat} {k : Nat} (h : k < pl.length) : plAt pl k = pl[k] := by
  unfold plAt
  rw [List.getD_eq_getElem?_getD, List.getElem?_eq_getElem h]
  rfl
theorem plAt_mem {pl : List Nat} {k : Nat} (h : k < pl.length) : plAt pl k ∈ pl := by
  rw [plAt_get h]; exact List.getElem_mem h
theorem rising_places (ps : List P2) (l : L3) : (places ps l).Pairwise (· < ·) := List.Pairwise.filter _ List.pairwise_lt_range
theorem plAt_lt {pl : List Nat} (h : pl.Pairwise (· < ·)) {j k : Nat} (hk : k < pl.length) (hj : j < k) : plAt pl j < plAt pl k := by
  rw [plAt_get (by omega), plAt_get hk]
  exact List.pairwise_iff_getElem.mp h j k (by omega) hk hj
theorem plAt_inj {pl : List Nat} (h : pl.Pairwise (· < ·)) {j k : Nat} (hj : j < pl.length) (hk : k < pl.length) (e : plAt pl j = plAt pl k) : j = k := by
  rcases Nat.lt_trichotomy j k with z | z | z
  · have := plAt_lt h hk z; omega
  · exact z
  · have := plAt_lt h hj z; omega
theorem nodup_pairsN {pl : List Nat} (h : pl.Pairwise (· < ·)) : (pairsOf pl).Nodup := by
  unfold pairsOf pairsN List.Nodup
  rw [List.pairwise_flatMap]
  refine ⟨fun k hk => ?_, ?_⟩
  · unfold rowP
    rw [List.pairwise_map]
    refine List.Pairwise.imp_of_mem ?_ List.nodup_range
    intro a b ha hb hab e
    have ha := List.mem_range.mp ha
    have hb := List.mem_range.mp hb
    have hk := List.mem_range.mp hk
    exact hab (plAt_inj h (by omega) (by omega) (congrArg Prod.fst e))
  · refine List.Pairwise.imp_of_mem ?_ List.nodup_range
    intro a b ha hb hab x hx y hy e
    have ha := List.mem_range.mp ha
    have hb := List.mem_range.mp hb
    obtain ⟨j, _, rfl⟩ := List.mem_map.mp hx
    obtain ⟨j', _, rfl⟩ := List.mem_map.mp hy
    exact hab (plAt_inj h ha hb (congrArg Prod.snd e))
theorem place_of {pl : List Nat} {x : Nat} (h : x ∈ pl) : ∃ k, k < pl.length ∧ plAt pl k = x := by
  obtain ⟨k, hk, e⟩ := List.getElem_of_mem h
  exact ⟨k, hk, by rw [plAt_get hk]; exact e⟩
/-- two places in the list of a line: it is the line through both -/
theorem line_of_places {ps : List P2} (hn : ps.Nodup) {le : L3 → L3 → Bool} {l : L3} (hl : l ∈ linesOf le ps) {x y : Nat} (hx : x ∈ places ps l) (hy : y ∈ places ps l) (hxy : x ≠ y) : lineOf (ptAt ps x) (ptAt ps y) = l := by
  obtain ⟨p, hp, q, hq, hpq, rfl⟩ := ((linesFor le hn).mem l).mp hl
  obtain ⟨x1, x2⟩ := mem_places.mp hx
  obtain ⟨y1, y2⟩ := mem_places.mp hy
  exact lineOf_unique hpq (ptAt_ne hn x1 y1 hxy) x2 y2
theorem mem_rows {le : L3 → L3 → Bool} {ps : List P2} {r : L3 × List Nat} (h : r ∈ rowsOf le ps) : r.1 ∈ linesOf le ps ∧ r.2 = places ps r.1 := by
  obtain ⟨l, hl, rfl⟩ := List.mem_map.mp h
  exact ⟨hl, rfl⟩
theorem nodup_rowsOf (le : L3 → L3 → Bool) {ps : List P2} (hn : ps.Nodup) : (rowsOf le ps).Nodup := by
  unfold rowsOf List.Nodup
  rw [List.pairwise_map]
  exact List.Pairwise.imp (fun h e => h (congrArg Prod.fst e)) (linesFor le hn).nd
theorem nodup_allP (le : L3 → L3 → Bool) {ps : List P2} (hn : ps.Nodup) : (allP (rowsOf le ps)).Nodup := by
  unfold allP List.Nodup
  rw [List.pairwise_flatMap]
  refine ⟨fun r hr => ?_, ?_⟩
  · obtain ⟨_, e⟩ := mem_rows hr
    rw [e]
    exact nodup_pairsN (rising_places ps r.1)
  · refine List.Pairwise.imp_of_mem ?_ (nodup_rowsOf le hn)
    intro r r' hr hr' hne x hx y hy e
    obtain ⟨h1, e1⟩ := mem_rows hr
    obtain ⟨h2, e2⟩ := mem_rows hr'
    apply hne
    have same : r.1 = r'.1 := by
      rw [e1] at hx
      rw [e2] at hy
      obtain ⟨k, hk, j, hj, rfl⟩ := mem_pairsN.mp hx
      obtain ⟨k', hk', j', hj', e3⟩ := mem_pairsN.mp hy
      rw [e3] at e
      have a1 := plAt_mem (by omega : j < (places ps r.1).length)
      have a2 := plAt_mem hk
      have b1 := plAt_mem (by omega : j' < (places ps r'.1).length)
      have b2 := plAt_mem hk'
      have ne1 := plAt_lt (rising_places ps r.1) hk hj
      have f1 := congrArg Prod.fst e
      have f2 := congrArg Prod.snd e
      dsimp only at f1 f2
      rw [← f1] at b1
      rw [← f2] at b2
      rw [← line_of_places hn h1 a1 a2 (by omega), ← line_of_places hn h2 b1 b2 (by omega)]
    refine Prod.ext same ?_
    rw [e1, e2, same]
theorem mem_allP {le : L3 → L3 → Bool} {ps : List P2} (hn : ps.Nodup) {x y : Nat} : (x, y) ∈ allP (rowsOf le ps) ↔ x < y ∧ y < ps.length := by
  unfold allP
  rw [List.mem_flatMap]
  constructor
  · rintro ⟨r, hr, h⟩
    obtain ⟨h1, e1⟩ := mem_rows hr
    rw [e1] at h
    obtain ⟨k, hk, j, hj, e⟩ := mem_pairsN.mp h
    injection e with ex ey
    subst ex ey
    exact ⟨plAt_lt (rising_places ps r.1) hk hj, (mem_places.mp (plAt_mem hk)).1⟩
  · rintro ⟨h1, h2⟩
    have hl : lnAt ps x y ∈ linesOf le ps := mem_linesOf.mpr ⟨y, h2, x, h1, rfl⟩
    have hne := ptAt_ne hn (by omega : x < ps.length) h2 (by omega)
    have mx : x ∈ places ps (lnAt ps x y) := mem_places.mpr ⟨by omega, on_left hne⟩
    have my : y ∈ places ps (lnAt ps x y) := mem_places.mpr ⟨h2, on_right hne⟩
    obtain ⟨j, hj, ej⟩ := place_of mx
    obtain ⟨k, hk, ek⟩ := place_of my
    have hjk : j < k := by
      rcases Nat.lt_trichotomy j k with z | z | z
      · exact z
      · rw [z, ek] at ej; omega
      · have := plAt_lt (rising_places ps (lnAt ps x y)) hj z
        omega
    exact ⟨_, List.mem_map.mpr ⟨_, hl, rfl⟩, mem_pairsN.mpr ⟨k, hk, j, hjk, by rw [ej, ek]⟩⟩
/-- as many pairs as there are -/
theorem length_allP (le : L3 → L3 → Bool) {ps : List P2} (hn : ps.Nodup) : 2 * (allP (rowsOf le ps)).length = ps.length * (ps.length - 1) := by
  have hr : (List.range ps.length).Pairwise (· < ·) := List.pairwise_lt_range
  have n2 := nodup_pairsN hr
  have n1 := nodup_allP le hn
  have e : ∀ {k}, k < ps.length → plAt (List.range ps.length) k = k := fun {k} h => by
    rw [plAt_get (by rw [List.length_range]; exact h), List.getElem_range]
  have s1 : ∀ x ∈ allP (rowsOf le ps), x ∈ pairsOf (List.range ps.length) := by
    rintro ⟨x, y⟩ h
    obtain ⟨h1, h2⟩ := (mem_allP hn).mp h
    refine mem_pairsN.mpr ⟨y, by rw [List.length_range]; exact h2, x, h1, ?_⟩
    rw [e (by omega), e h2]
  have s2 : ∀ x ∈ pairsOf (List.range ps.length), x ∈ allP (rowsOf le ps) := by
    intro x h
    obtain ⟨k, hk, j, hj, rfl⟩ := mem_pairsN.mp h
    rw [List.length_range] at hk
    rw [e hk, e (by omega)]
    exact (mem_allP hn).mpr ⟨hj, hk⟩
  have l1 := nodup_sub_length n1 s1
  have l2 := nodup_sub_length n2 s2
  have l3 := length_pairsN (List.range ps.length) ps.length
  have l4 : pairsOf (List.range ps.length) = pairsN (List.range ps.length) ps.length := by
    unfold pairsOf
    rw [List.length_range]
  rw [l4] at l1 l2
  omega
end Tw
namespace Tw
/-! ### one line, or as many as points -/
theorem lines_one {le : L3 → L3 → Bool} {ps : List P2} (hn : ps.Nodup) (h2 : 2 ≤ ps.length) (h1 : (linesOf le ps).length = 1) : linesOf le ps = [lnAt ps 0 1] ∧ ∀ k, k < ps.length → On (lnAt ps 0 1) (ptAt ps k) := by
  have h01 : lnAt ps 0 1 ∈ linesOf le ps := mem_linesOf.mpr ⟨1, by omega, 0, by omega, rfl⟩
  obtain ⟨l, hl⟩ := List.length_eq_one_iff.mp h1
  rw [hl] at h01 ⊢
  have e01 : lnAt ps 0 1 = l := by simpa using h01
  refine ⟨by rw [e01], fun k hk => ?_⟩
  by_cases h0 : k = 0
  · rw [h0]
    exact on_left (ptAt_ne hn (by omega) (by omega) (by omega))
  · have h0k : lnAt ps 0 k ∈ linesOf le ps := mem_linesOf.mpr ⟨k, hk, 0, by omega, rfl⟩
    rw [hl] at h0k
    have e : lnAt ps 0 k = l := by simpa using h0k
    rw [e01, ← e]
    exact on_right (ptAt_ne hn (by omega) hk (by omega))
theorem lines_col {le : L3 → L3 → Bool} {ps : List P2} (hn : ps.Nodup) {l : L3} (hl : l ∈ linesOf le ps) (h : ∀ k, k < ps.length → On l (ptAt ps k)) : linesOf le ps = [l] := by
  have all : ∀ m ∈ linesOf le ps, m = l := by
    intro m hm
    obtain ⟨k, hk, j, hj, rfl⟩ := mem_linesOf.mp hm
    exact line_of_places hn hl (mem_places.mpr ⟨by omega, h j (by omega)⟩) (mem_places.mpr ⟨hk, h k hk⟩) (by omega)
  have nd := (linesFor le hn).nd
  cases e : linesOf le ps with
  | nil => rw [e] at hl; cases hl
  | cons a r =>
    rw [e] at all nd
    have ea := all a List.mem_cons_self
    cases r with
    | nil => rw [ea]
    | cons b r =>
      have eb := all b (List.mem_cons_of_mem _ List.mem_cons_self)
      exact absurd (by rw [ea, eb]; exact List.mem_cons_self) (List.nodup_cons.mp nd).1
theorem not_col {le : L3 → L3 → Bool} {ps : List P2} (hn : ps.Nodup) (h2 : 2 ≤ ps.length) (h1 : (linesOf le ps).length ≠ 1) : ¬ Col ps := by
  intro c
  have h01 : lnAt ps 0 1 ∈ linesOf le ps := mem_linesOf.mpr ⟨1, by omega, 0, by omega, rfl⟩
  have := lines_col hn h01 fun k hk => c _ (ptAt_mem (by omega)) _ (ptAt_mem (by omega)) _ (ptAt_mem hk) (ptAt_ne hn (by omega) (by omega) (by omega))
  rw [this] at h1
  exact h1 rfl
theorem lines_many {le : L3 → L3 → Bool} {ps : List P2} (hn : ps.Nodup) (h2 : 2 ≤ ps.length) (h1 : (linesOf le ps).length ≠ 1) : ps.length ≤ (linesOf le ps).length :=
  as_many ps.length ps _ rfl hn (linesFor le hn) (not_col hn h2 h1)
theorem places_all {ps : List P2} {l : L3} : (places ps l).length = ps.length ↔ ∀ k, k < ps.length → On l (ptAt ps k) := by
  constructor
  · intro h k hk
    by_cases o : On l (ptAt ps k)
    · exact o
    · exfalso
      have nd : (k :: places ps l).Nodup := List.nodup_cons.mpr ⟨fun z => o (mem_places.mp z).2, nodup_places ps l⟩
      have := nodup_sub_length nd (B := List.range ps.length) (fun x hx => by
        rcases List.mem_cons.mp hx with e | hx
        · rw [e]; exact List.mem_range.mpr hk
        · exact List.mem_range.mpr (mem_places.mp hx).1)
      rw [List.length_range, List.length_cons] at this
      omega
  · intro h
    have h1 := length_placesN ps l ps.length
    have h2 := nodup_sub_length (List.nodup_range (n := ps.length)) (B := places ps l) (fun x hx => mem_places.mpr ⟨List.mem_range.mp hx, h x (List.mem_range.mp hx)⟩)
    rw [List.length_range] at h2
    unfold places at h2 ⊢
    omega
theorem places_just {ps : List P2} {l : L3} (h0 : 0 < ps.length) (h : (places ps l).length = ps.length - 1) : ∃ k, k < ps.length ∧ ¬ On l (ptAt ps k) ∧ ∀ j, j < ps.length → j ≠ k → On l (ptAt ps j) := by
  have : ∃ k, k < ps.length ∧ ¬ On l (ptAt ps k) := by
    apply Classical.byContradiction
    intro z
    have := places_all.mpr fun k hk => Classical.byContradiction fun o => z ⟨k, hk, o⟩
    omega
  obtain ⟨k, hk, o⟩ := this
  refine ⟨k, hk, o, fun j hj hjk => ?_⟩
  apply Classical.byContradiction
  intro oj
  have nd : (j :: k :: places ps l).Nodup := by
    refine List.nodup_cons.mpr ⟨fun z => ?_, List.nodup_cons.mpr ⟨fun z => o (mem_places.mp z).2, nodup_places ps l⟩⟩
    rcases List.mem_cons.mp z with e | z
    · exact hjk e
    · exact oj (mem_places.mp z).2
  have := nodup_sub_length nd (B := List.range ps.length) (fun x hx => by
    rcases List.mem_cons.mp hx with e | hx
    · rw [e]; exact List.mem_range.mpr hj
    · rcases List.mem_cons.mp hx with e | hx
      · rw [e]; exact List.mem_range.mpr hk
      · exact List.mem_range.mpr (mem_places.mp hx).1)
  rw [List.length_range, List.length_cons, List.length_cons] at this
  omega
theorem lines_just {le : L3 → L3 → Bool} {ps : List P2} (hn : ps.Nodup) (h0 : 0 < ps.length) {l : L3} (hl : l ∈ linesOf le ps) (h : (places ps l).length = ps.length - 1) : (linesOf le ps).length = ps.length := by
  obtain ⟨k, hk, o, all⟩ := places_just h0 h
  refine just_as_many hn (linesFor le hn) (ptAt_mem hk) hl o fun x hx hne => ?_
  obtain ⟨j, hj, rfl⟩ := ptAt_of_mem hx
  exact all j hj fun e => hne (by rw [e])
/-- the line through two points on which no other lies: just two places -/
theorem two_places {ps : List P2} (hn : ps.Nodup) {p q : P2} (hp : p ∈ ps) (hq : q ∈ ps) (hpq : p ≠ q) (two : ∀ x ∈ ps, On (lineOf p q) x → x = p ∨ x = q) : (places ps (lineOf p q)).length = 2 := by
  obtain ⟨i, hi, rfl⟩ := ptAt_of_mem hp
  obtain ⟨j, hj, rfl⟩ := ptAt_of_mem hq
  have hij : i ≠ j := fun e => hpq (by rw [e])
  have inj : ∀ {a b}, a < ps.length → b < ps.length → ptAt ps a = ptAt ps b → a = b := fun {a b} ha hb e => by
    by_cases h : a = b
    · exact h
    · exact absurd e (ptAt_ne hn ha hb h)
  have h1 := nodup_sub_length (nodup_places ps (lineOf (ptAt ps i) (ptAt ps j))) (B := [i, j]) (fun x hx => by
    obtain ⟨x1, x2⟩ := mem_places.mp hx
    rcases two _ (ptAt_mem x1) x2 with e | e
    · rw [inj x1 hi e]; exact List.mem_cons_self
    · rw [inj x1 hj e]; exact List.mem_cons_of_mem _ List.mem_cons_self)
  have nd : ([i, j] : List Nat).Nodup := by simp [hij]
  have h2 := nodup_sub_length nd (B := places ps (lineOf (ptAt ps i) (ptAt ps j))) (fun x hx => by
    rcases List.mem_cons.mp hx with e | hx
    · rw [e]; exact mem_places.mpr ⟨hi, on_left hpq⟩
    · have e : x = j := by simpa using hx
      rw [e]; exact mem_places.mpr ⟨hj, on_right hpq⟩)
  simp only [List.length_cons, List.length_nil] at h1 h2
  omega
theorem two_exists {le : L3 → L3 → Bool} {ps : List P2} (hn : ps.Nodup) (h2 : 2 ≤ ps.length) (h1 : (linesOf le ps).length ≠ 1) : ∃ l ∈ linesOf le ps, (places ps l).length = 2 := by
  obtain ⟨p, hp, q, hq, hpq, two⟩ := sylvester (not_col hn h2 h1)
  exact ⟨lineOf p q, ((linesFor le hn).mem _).mpr ⟨p, hp, q, hq, hpq, rfl⟩, two_places hn hp hq hpq two⟩

/-! ### gaps -/
def gapO (l : L3) (p : P2) : P2 := frac (much l p * much l p) (nn l)
/-- a gap is less than another -/
def Less (g g' : P2) : Prop := g.1 * g'.2 < g'.1 * g.2
instance (g g' : P2) : Decidable (Less g g') := by unfold Less; infer_instance
theorem gap_spec {l : L3} (p : P2) (nl : l.1 ≠ 0 ∨ l.2.1 ≠ 0) : ∃ d, 0 < d ∧ much l p * much l p = d * (gapO l p).1 ∧ nn l = d * (gapO l p).2 ∧ 0 < (gapO l p).2 ∧ cm (gapO l p).1 (gapO l p).2 = 1 := by
  have np := nn_pos nl
  obtain ⟨d, hd, h1, h2, h3, h4⟩ := frac_spec (much l p * much l p) (b := nn l) (by omega)
  refine ⟨d, ?_, h1, h2, h3, h4⟩
  rcases Int.lt_or_le 0 d with q | q
  · exact q
  · exfalso
    have := Int.mul_nonneg (show 0 ≤ -d by omega) (Int.le_of_lt h3)
    rw [Int.neg_mul] at this
    have h2' : nn l = d * (frac (much l p * much l p) (nn l)).2 := h2
    omega
theorem gap_pos {l : L3} {p : P2} (nl : l.1 ≠ 0 ∨ l.2.1 ≠ 0) : 0 < (gapO l p).1 ↔ ¬ On l p := by
  obtain ⟨d, hd, h1, _⟩ := gap_spec p nl
  rw [on_much]
  constructor
  · intro h e
    rw [e] at h1
    have := Int.mul_pos hd h
    rw [← h1] at this
    exact absurd this (by decide)
  · intro h
    have := sq_pos h
    rw [h1] at this
    exact Int.pos_of_mul_pos_left (by rw [Int.mul_comm]; exact this) hd
theorem gap_less {l m : L3} {p q : P2} (nl : l.1 ≠ 0 ∨ l.2.1 ≠ 0) (nm : m.1 ≠ 0 ∨ m.2.1 ≠ 0) : Less (gapO l p) (gapO m q) ↔ much l p * much l p * nn m < much m q * much m q * nn l := by
  obtain ⟨d, hd, h1, h2, _⟩ := gap_spec p nl
  obtain ⟨e, he, k1, k2, _⟩ := gap_spec q nm
  unfold Less
  rw [h1, h2, k1, k2]
  generalize (gapO l p).1 = a
  generalize (gapO l p).2 = b
  generalize (gapO m q).1 = a'
  generalize (gapO m q).2 = b'
  have e1 : d * a * (e * b') = d * e * (a * b') := by grind
  have e2 : e * a' * (d * b) = d * e * (a' * b) := by grind
  rw [e1, e2]
  have hde := Int.mul_pos hd he
  constructor
  · intro h; exact Int.mul_lt_mul_of_pos_left h hde
  · intro h; exact Int.lt_of_mul_lt_mul_left h (Int.le_of_lt hde)
/-- two fractions in lowest terms, neither less -/
theorem frac_same {g g' : P2} (h : 0 < g.2) (h' : 0 < g'.2) (c : cm g.1 g.2 = 1) (c' : cm g'.1 g'.2 = 1) (n1 : ¬ Less g g') (n2 : ¬ Less g' g) : g = g' := by
  unfold Less at n1 n2
  have e : g.1 * g'.2 = g'.1 * g.2 := by omega
  have cg : Int.gcd g.1 g.2 = 1 := by
    have : ((Int.gcd g.1 g.2 : Nat) : Int) = 1 := c
    omega
  have cg' : Int.gcd g'.1 g'.2 = 1 := by
    have : ((Int.gcd g'.1 g'.2 : Nat) : Int) = 1 := c'
    omega
  have d1 : g.2 ∣ g'.2 := by
    have h1 : g.2 ∣ g.1 * g'.2 := by rw [e]; exact Int.dvd_mul_left _ _
    have h2 := (Int.dvd_gcd_mul_iff_dvd_mul (k := g.2) (n := g.1) (m := g'.2)).mpr h1
    rw [Int.gcd_comm, cg] at h2
    simpa using h2
  have d2 : g'.2 ∣ g.2 := by
    have h1 : g'.2 ∣ g'.1 * g.2 := by rw [← e]; exact Int.dvd_mul_left _ _
    have h2 := (Int.dvd_gcd_mul_iff_dvd_mul (k := g'.2) (n := g'.1) (m := g.2)).mpr h1
    rw [Int.gcd_comm, cg'] at h2
    simpa using h2
  have e2 : g.2 = g'.2 := by
    have l1 := Int.le_of_dvd h' d1
    have l2 := Int.le_of_dvd h d2
    omega
  refine Prod.ext ?_ e2
  rw [← e2] at e
  exact Int.eq_of_mul_eq_mul_right (by omega) e
theorem gap_same {l m : L3} {p q : P2} (nl : l.1 ≠ 0 ∨ l.2.1 ≠ 0) (nm : m.1 ≠ 0 ∨ m.2.1 ≠ 0) (n1 : ¬ Less (gapO l p) (gapO m q)) (n2 : ¬ Less (gapO m q) (gapO l p)) : gapO l p = gapO m q := by
  obtain ⟨_, _, _, _, h1, h2⟩ := gap_spec p nl
  obtain ⟨_, _, _, _, k1, k2⟩ := gap_spec q nm
  exact frac_same h1 k1 h2 k2 n1 n2
theorem less_trans {g g' g'' : P2} (h : 0 < g.2) (h' : 0 < g'.2) (h'' : 0 < g''.2) (a : ¬ Less g' g) (b : Less g'' g) : ¬ Less g' g'' := by
  unfold Less at *
  intro c
  apply a
  -- g' < g'' < g
  have s1 : g'.1 * g''.2 * g.2 < g''.1 * g'.2 * g.2 := Int.mul_lt_mul_of_pos_right c h
  have s2 : g''.1 * g.2 * g'.2 < g.1 * g''.2 * g'.2 := Int.mul_lt_mul_of_pos_right b h'
  have s3 : (g'.1 * g.2) * g''.2 < (g.1 * g'.2) * g''.2 := by
    have e1 : g'.1 * g''.2 * g.2 = g'.1 * g.2 * g''.2 := by grind
    have e2 : g''.1 * g'.2 * g.2 = g''.1 * g.2 * g'.2 := by grind
    have e3 : g.1 * g''.2 * g'.2 = g.1 * g'.2 * g''.2 := by grind
    omega
  exact Int.lt_of_mul_lt_mul_right s3 (Int.le_of_lt h'')
/-- what is known of the best so far: of all pairs that were looked at none has a lesser gap above nought -/
def Best (ps : List P2) (done : L3 → Nat → Prop) : Option (Nat × L3) → Prop
  | none => ∀ l k, done l k → On l (ptAt ps k)
  | some (k, l) => done l k ∧ ¬ On l (ptAt ps k) ∧ ∀ m j, done m j → ¬ On m (ptAt ps j) → ¬ Less (gapO m (ptAt ps j)) (gapO l (ptAt ps k))
/-- the nearest pair's line has just two places -/
theorem nearest_two {le : L3 → L3 → Bool} {ps : List P2} (hn : ps.Nodup) {l : L3} {k : Nat} (hl : l ∈ linesOf le ps) (hk : k < ps.length) (o : ¬ On l (ptAt ps k))
    (least : ∀ m ∈ linesOf le ps, ∀ j, j < ps.length → ¬ On m (ptAt ps j) → ¬ Less (gapO m (ptAt ps j)) (gapO l (ptAt ps k))) : (places ps l).length = 2 := by
  obtain ⟨p, hp, q, hq, hpq, rfl⟩ := ((linesFor le hn).mem l).mp hl
  refine two_places hn hp hq hpq fun x hx ox => ?_
  have := kelly_two (S := ps) hpq (ptAt_mem hk) o (fun t ht u hu z hz htu oz => by
    obtain ⟨j, hj, rfl⟩ := ptAt_of_mem hz
    have h1 := least (lineOf t u) (((linesFor le hn).mem _).mpr ⟨t, ht, u, hu, htu, rfl⟩) j hj oz
    rw [gap_less (lineOf_ne htu) (lineOf_ne hpq)] at h1
    exact h1) hx hp hq ox (on_left hpq) (on_right hpq)
  rcases this with e | e | e
  · exact .inl e
  · exact absurd e hpq
  · exact .inr e
end Tw
namespace Tw
/-! ### looking for the nearest pair -/
def NZ (l : L3) : Prop := l.1 ≠ 0 ∨ l.2.1 ≠ 0
/-- the pairs that were looked at: of the first i lines all, of the i-th the first k -/
def DoneAt (ls : List L3) (n i k : Nat) (l : L3) (j : Nat) : Prop := (∃ i', i' < i ∧ ls[i']? = some l ∧ j < n) ∨ (ls[i]? = some l ∧ j < k)
theorem less_irrefl (g : P2) : ¬ Less g g := Int.lt_irrefl _
theorem gap_den {l : L3} (p : P2) (nl : NZ l) : 0 < (gapO l p).2 := by
  obtain ⟨_, _, _, _, h, _⟩ := gap_spec p nl
  exact h
theorem best_mono {ps : List P2} {d d' : L3 → Nat → Prop} (e : ∀ l j, d l j ↔ d' l j) {o : Option (Nat × L3)} (h : Best ps d o) : Best ps d' o := by
  match o, h with
  | none, h => exact fun l k hk => h l k ((e l k).mpr hk)
  | some (k, l), ⟨h1, h2, h3⟩ => exact ⟨(e l k).mp h1, h2, fun m j hm => h3 m j ((e m j).mpr hm)⟩
theorem best_take {ps : List P2} {d : L3 → Nat → Prop} {o : Option (Nat × L3)} {l : L3} {k : Nat} (nz : ∀ m j, d m j → NZ m) (nl : NZ l) (h : Best ps d o) (hp : 0 < (gapO l (ptAt ps k)).1)
    (hb : ∀ k0 l0, o = some (k0, l0) → Less (gapO l (ptAt ps k)) (gapO l0 (ptAt ps k0))) : Best ps (fun m j => d m j ∨ (m = l ∧ j = k)) (some (k, l)) := by
  refine ⟨.inr ⟨rfl, rfl⟩, (gap_pos nl).mp hp, fun m j hm om => ?_⟩
  rcases hm with hm | ⟨rfl, rfl⟩
  · match o, h, hb with
    | none, h, _ => exact absurd (h m j hm) om
    | some (k0, l0), ⟨h1, h2, h3⟩, hb => exact less_trans (gap_den _ (nz _ _ h1)) (gap_den _ (nz _ _ hm)) (gap_den _ nl) (h3 m j hm om) (hb k0 l0 rfl)
  · exact less_irrefl _
theorem best_skip {ps : List P2} {d : L3 → Nat → Prop} {o : Option (Nat × L3)} {l : L3} {k : Nat} (nl : NZ l) (h : Best ps d o)
    (hb : ¬ 0 < (gapO l (ptAt ps k)).1 ∨ ∃ k0 l0, o = some (k0, l0) ∧ ¬ Less (gapO l (ptAt ps k)) (gapO l0 (ptAt ps k0))) : Best ps (fun m j => d m j ∨ (m = l ∧ j = k)) o := by
  match o, h with
  | none, h =>
    rintro m j (hm | ⟨rfl, rfl⟩)
    · exact h m j hm
    · rcases hb with hb | ⟨k0, l0, e, _⟩
      · exact Classical.byContradiction fun z => hb ((gap_pos nl).mpr z)
      · cases e
  | some (k1, l1), ⟨h1, h2, h3⟩ =>
    refine ⟨.inl h1, h2, fun m j hm om => ?_⟩
    rcases hm with hm | ⟨rfl, rfl⟩
    · exact h3 m j hm om
    · rcases hb with hb | ⟨k0, l0, e, hl⟩
      · exact absurd ((gap_pos nl).mpr om) hb
      · cases e
        exact hl
theorem done_next {ls : List L3} {n i k : Nat} {l : L3} (hl : ls[i]? = some l) (m : L3) (j : Nat) : (DoneAt ls n i k m j ∨ (m = l ∧ j = k)) ↔ DoneAt ls n i (k + 1) m j := by
  unfold DoneAt
  constructor
  · rintro ((h | ⟨h1, h2⟩) | ⟨rfl, rfl⟩)
    · exact .inl h
    · exact .inr ⟨h1, by omega⟩
    · exact .inr ⟨hl, by omega⟩
  · rintro (h | ⟨h1, h2⟩)
    · exact .inl (.inl h)
    · by_cases e : j = k
      · rw [hl] at h1
        exact .inr ⟨(Option.some.inj h1).symm, e⟩
      · exact .inl (.inr ⟨h1, by omega⟩)
theorem done_row {ls : List L3} {n i : Nat} (m : L3) (j : Nat) : DoneAt ls n i n m j ↔ DoneAt ls n (i + 1) 0 m j := by
  unfold DoneAt
  constructor
  · rintro (⟨i', h1, h2, h3⟩ | ⟨h1, h2⟩)
    · exact .inl ⟨i', by omega, h2, h3⟩
    · exact .inl ⟨i, by omega, h1, h2⟩
  · rintro (⟨i', h1, h2, h3⟩ | ⟨h1, h2⟩)
    · by_cases e : i' = i
      · rw [e] at h2
        exact .inr ⟨h2, h3⟩
      · exact .inl ⟨i', by omega, h2, h3⟩
    · omega
theorem done_none {ls : List L3} {n : Nat} (m : L3) (j : Nat) : ¬ DoneAt ls n 0 0 m j := by
  rintro (⟨i', h1, _⟩ | ⟨_, h2⟩)
  · omega
  · omega
theorem done_all {ls : List L3} {n : Nat} (m : L3) (j : Nat) : DoneAt ls n ls.length 0 m j ↔ (m ∈ ls ∧ j < n) := by
  constructor
  · rintro (⟨i', h1, h2, h3⟩ | ⟨_, h2⟩)
    · exact ⟨List.mem_of_getElem? h2, h3⟩
    · omega
  · rintro ⟨h1, h2⟩
    obtain ⟨i, hi, e⟩ := List.getElem_of_mem h1
    exact .inl ⟨i, hi, by rw [List.getElem?_eq_getElem hi, e], h2⟩
theorem done_nz {ls : List L3} {n i k : Nat} (nz : ∀ l ∈ ls, NZ l) (m : L3) (j : Nat) (h : DoneAt ls n i k m j) : NZ m := by
  rcases h with ⟨i', _, h2, _⟩ | ⟨h1, _⟩
  · exact nz _ (List.mem_of_getElem? h2)
  · exact nz _ (List.mem_of_getElem? h1)
/-- all pairs looked at -/
def AllP (ls : List L3) (n : Nat) (l : L3) (j : Nat) : Prop := l ∈ ls ∧ j < n
/-- two that looked for it found the same gap -/
theorem best_same {ps : List P2} {ls : List L3} (nz : ∀ l ∈ ls, NZ l) {k k' : Nat} {l l' : L3} (h : Best ps (AllP ls ps.length) (some (k, l))) (h' : Best ps (AllP ls ps.length) (some (k', l'))) : gapO l (ptAt ps k) = gapO l' (ptAt ps k') := by
  obtain ⟨⟨a1, a2⟩, b, c⟩ := h
  obtain ⟨⟨a1', a2'⟩, b', c'⟩ := h'
  exact gap_same (nz _ a1) (nz _ a1') (c' _ _ ⟨a1, a2⟩ b) (c _ _ ⟨a1', a2'⟩ b')
theorem best_none_same {ps : List P2} {ls : List L3} {o : Option (Nat × L3)} (h : Best ps (AllP ls ps.length) none) (h' : Best ps (AllP ls ps.length) o) : o = none := by
  match o, h' with
  | none, _ => rfl
  | some (k, l), ⟨h1, h2, _⟩ => exact absurd (h l k h1) h2
theorem lines_nz {le : L3 → L3 → Bool} {ps : List P2} (hn : ps.Nodup) {l : L3} (hl : l ∈ linesOf le ps) : NZ l := by
  obtain ⟨k, hk, j, hj, rfl⟩ := mem_linesOf.mp hl
  exact lineOf_ne (ptAt_ne hn (by omega) hk (by omega))
end Tw
namespace Tw
open PySem PySem.Spec PyProof.Rows L2
/-! ### the dict of pairs -/
def encP (x : Nat × Nat) : List Key := [.inl (x.1 : Nat), .inl (x.2 : Nat)]
theorem encP_inj {x y : Nat × Nat} (h : encP x = encP y) : x = y := by
  injection h with h1 h
  injection h with h2 _
  injection h1 with h1
  injection h2 with h2
  exact Prod.ext (Int.ofNat.inj h1) (Int.ofNat.inj h2)
def kvP (l : List (Nat × Nat)) : List (List Key × V) := l.map fun x => (encP x, V.bl true)
theorem kvP_put {l : List (Nat × Nat)} {x : Nat × Nat} (h : x ∉ l) : putK (kvP l) (encP x) (.bl true) = kvP (l ++ [x]) := by
  unfold putK
  have e : ((kvP l).any fun kv => decide (kv.1 = encP x)) = false := by
    rw [List.any_eq_false]
    rintro ⟨k, v⟩ hkv hd
    obtain ⟨y, hy, e⟩ := List.mem_map.mp hkv
    have e1 : k = encP y := (congrArg Prod.fst e).symm
    have e2 : k = encP x := of_decide_eq_true hd
    exact h (by rw [← encP_inj (e1.symm.trans e2)]; exact hy)
  rw [if_neg (by rw [e]; decide)]
  unfold kvP
  rw [List.map_append]
  rfl
/-! ### in, for lists of places -/
theorem inV_pl (k : Nat) (l : List Nat) : inV (.int (k : Int)) (plV l) = decide (k ∈ l) := by
  induction l with
  | nil => simp [inV, plV]
  | cons n l ih =>
    have e : inV (.int (k : Int)) (plV (n :: l)) = (eqV (.int (n : Int)) (.int (k : Int)) || inV (.int (k : Int)) (plV l)) := rfl
    rw [e, ih]
    by_cases h : n = k
    · subst h
      simp [eqV]
    · have h1 : ¬ k = n := fun z => h z.symm
      have h2 : ¬ (n : Int) = (k : Int) := by omega
      by_cases h3 : k ∈ l <;> simp [eqV, h1, h2, h3]
theorem flat_pl (l : List Nat) : (plV l).all flatV = true := by
  unfold plV
  rw [List.all_map]
  exact List.all_eq_true.mpr fun x _ => rfl
theorem plV_at {l : List Nat} {k : Nat} (h : k < l.length) : (plV l)[k]? = some (.int (plAt l k : Nat)) := by
  unfold plV
  rw [List.getElem?_map, List.getElem?_eq_getElem h, plAt_get h]
  rfl
theorem plV_len (l : List Nat) : (plV l).length = l.length := List.length_map _
end Tw
namespace Tw
open PySem PySem.Spec PyProof.Rows L2 TL
/-! ### numbers as texts -/
def tS (n : Int) : Str := Str.ofString (toString n)
theorem tl_tS_nat (n : Nat) : tl (tS (n : Int)) = numL n := tl_num n
theorem tl_tS_neg (n : Nat) : tl (tS (Int.negSucc n)) = 45 :: numL (n + 1) := by
  have e : toString (Int.negSucc n) = "-" ++ toString (((n + 1 : Nat)) : Int) := rfl
  show tl (Str.ofString (toString (Int.negSucc n))) = _
  rw [e, tl_ofString, String.toList_append, List.map_append, ← tl_ofString (toString (((n + 1 : Nat)) : Int)), tl_num]
  rfl
theorem numL_head {n : Nat} (h : n ≠ 0) : (numL n).head? ≠ some 48 := by
  induction n using Nat.strongRecOn with
  | _ n ih =>
    by_cases h10 : n < 10
    · rw [numL_lt h10]
      simp
      omega
    · rw [numL_step (by omega)]
      have := ih (n / 10) (by omega) (by omega)
      have ne := numL_ne (n / 10)
      cases e : numL (n / 10) with
      | nil => exact absurd e ne
      | cons a l =>
        rw [e] at this
        exact this
def figL (w : List Nat) : List Nat := if w.take 1 = [45] then w.drop 1 else w
structure GoodL (w : List Nat) : Prop where
  one : 1 ≤ (figL w).length
  most : (figL w).length ≤ 7
  nought : (figL w).head? = some 48 → w = [48]
  dig : NumText.AllDigits (figL w)
def valL (w : List Nat) : Int := if w.take 1 = [45] then -((NumText.digitsVal (figL w) : Nat) : Int) else ((NumText.digitsVal (figL w) : Nat) : Int)
theorem take1_num (n : Nat) : (numL n).take 1 ≠ [45] := fun e => by
  cases h : numL n with
  | nil => exact numL_ne n h
  | cons a l =>
    rw [h] at e
    have ea : a = 45 := by simpa using e
    have := numL_free (n := n) (s := 45) (.inl (by decide))
    rw [h, ea] at this
    exact this List.mem_cons_self
theorem good_nat {n : Nat} (h : n ≤ 1000000) : GoodL (numL n) ∧ valL (numL n) = (n : Int) := by
  have e : figL (numL n) = numL n := if_neg (take1_num n)
  refine ⟨⟨?_, ?_, ?_, ?_⟩, ?_⟩
  · rw [e]
    exact List.length_pos_iff.mpr (numL_ne n)
  · rw [e]
    exact numL_len (by decide) (by omega)
  · rw [e]
    intro h0
    by_cases hn : n = 0
    · rw [hn]
      rfl
    · exact absurd h0 (numL_head hn)
  · rw [e]
    exact numL_digits n
  · unfold valL
    rw [if_neg (take1_num n), e, numL_val]
theorem good_neg {n : Nat} (h : n + 1 ≤ 1000000) : GoodL (45 :: numL (n + 1)) ∧ valL (45 :: numL (n + 1)) = Int.negSucc n := by
  have t : (45 :: numL (n + 1)).take 1 = [45] := rfl
  have e : figL (45 :: numL (n + 1)) = numL (n + 1) := if_pos t
  refine ⟨⟨?_, ?_, ?_, ?_⟩, ?_⟩
  · rw [e]
    exact List.length_pos_iff.mpr (numL_ne _)
  · rw [e]
    exact numL_len (by decide) (by omega)
  · rw [e]
    intro h0
    exact absurd h0 (numL_head (by omega))
  · rw [e]
    exact numL_digits _
  · unfold valL
    rw [if_pos t, e, numL_val]
    rfl
theorem good_tS {n : Int} (h : -1000000 ≤ n ∧ n ≤ 1000000) : GoodL (tl (tS n)) ∧ valL (tl (tS n)) = n := by
  cases n with
  | ofNat k =>
    have := good_nat (n := k) (by have h2 : (k : Int) ≤ 1000000 := h.2; omega)
    rw [← tl_tS_nat k] at this
    exact this
  | negSucc k =>
    rw [tl_tS_neg]
    exact good_neg (by omega)
theorem tS_free {n : Int} {s : Nat} (h : s < 45 ∨ 57 < s) : s ∉ tl (tS n) := by
  cases n with
  | ofNat k => exact (tl_tS_nat k) ▸ numL_free (by omega)
  | negSucc k =>
    rw [tl_tS_neg]
    intro hm
    rcases List.mem_cons.mp hm with e | hm
    · omega
    · exact numL_free (by omega) hm
theorem tS_len {n : Int} (h : -1000000 ≤ n ∧ n ≤ 1000000) : (tS n).length ≤ 8 := by
  rw [len_tl]
  cases n with
  | ofNat k =>
    have := numL_len (n := k) (k := 7) (by decide) (by have h2 : (k : Int) ≤ 1000000 := h.2; omega)
    have e : tl (tS (Int.ofNat k)) = numL k := tl_tS_nat k
    rw [e]
    omega
  | negSucc k =>
    rw [tl_tS_neg, List.length_cons]
    have := numL_len (n := k + 1) (k := 7) (by decide) (by omega)
    omega
/-- what int says of a good word -/
theorem good_int {w : Str} (g : GoodL (tl w)) : intText? w = some (valL (tl w)) ∧ w.length ≤ 8 := by
  obtain ⟨g1, g2, g3, g4⟩ := g
  have hl := len_tl w
  unfold valL
  by_cases h : (tl w).take 1 = [45]
  · have e : figL (tl w) = (tl w).drop 1 := if_pos h
    rw [if_pos h]
    rw [e] at g1 g2 g4 ⊢
    rw [List.length_drop] at g1 g2
    have e2 : tl w = 45 :: (tl w).drop 1 := by
      have := List.take_append_drop 1 (tl w)
      rw [h] at this
      exact this.symm
    refine ⟨intText_neg e2 g4 (fun z => ?_) (by omega), by omega⟩
    have := congrArg List.length z
    rw [List.length_drop, List.length_nil] at this
    omega
  · have e : figL (tl w) = tl w := if_neg h
    rw [if_neg h]
    rw [e] at g1 g2 g4 ⊢
    exact ⟨intText_digits g4 (fun z => by rw [show tl w = [] from z] at g1; exact absurd g1 (by decide)) (by omega), by omega⟩
/-! ### points as texts -/
def ptText (p : P2) : Str := tS p.1 ++ "," ++ tS p.2
def psText (ps : List P2) : Str := Txt.join " " (ps.map ptText)
theorem comma_tl : tl "," = [44] := tl_ofString ","
theorem blank_tl : tl " " = [32] := tl_ofString " "
theorem ptText_join (p : P2) : ptText p = Txt.join "," [tS p.1, tS p.2] := by
  rw [join_eq]
  rfl
theorem ptText_split (p : P2) : Txt.split (ptText p) "," = [tS p.1, tS p.2] := by
  rw [ptText_join]
  refine split_join (s := 44) (S := []) comma_tl (by decide +kernel) (by simp) fun x hx => ?_
  rcases List.mem_cons.mp hx with e | hx
  · rw [e]; exact tS_free (by omega)
  · have e : x = tS p.2 := by simpa using hx
    rw [e]; exact tS_free (by omega)
theorem ptText_free (p : P2) : 32 ∉ tl (ptText p) := by
  unfold ptText
  rw [tl_append, tl_append, comma_tl]
  simp only [List.mem_append, List.mem_singleton]
  rintro ((h | h) | h)
  · exact tS_free (by omega) h
  · omega
  · exact tS_free (by omega) h
theorem psText_split {ps : List P2} (h : ps ≠ []) : Txt.split (psText ps) " " = ps.map ptText := by
  refine split_join (s := 32) (S := []) blank_tl (by decide +kernel) (by simpa using h) fun x hx => ?_
  obtain ⟨p, _, rfl⟩ := List.mem_map.mp hx
  exact ptText_free p
theorem comma_len : Str.length "," = 1 := by rw [len_tl, comma_tl]; rfl
theorem blank_len : Str.length " " = 1 := by rw [len_tl, blank_tl]; rfl
theorem ptText_len {p : P2} (h : Ok p) : (ptText p).length ≤ 17 := by
  obtain ⟨h1, h2, h3, h4⟩ := h
  have a := tS_len (n := p.1) ⟨h1, h2⟩
  have b := tS_len (n := p.2) ⟨h3, h4⟩
  rw [len_tl] at a b ⊢
  unfold ptText
  rw [tl_append, tl_append, comma_tl, List.length_append, List.length_append]
  simp only [List.length_cons, List.length_nil]
  omega
theorem sum_le {l : List Str} {b : Nat} (h : ∀ x ∈ l, x.length ≤ b) : (l.map (·.length)).sum ≤ l.length * b := by
  induction l with
  | nil => simp
  | cons x l ih =>
    have h1 := h x List.mem_cons_self
    have h2 := ih fun y hy => h y (List.mem_cons_of_mem _ hy)
    rw [List.map_cons, List.sum_cons, List.length_cons, Nat.succ_mul]
    omega
theorem join_len (y : Str) : ∀ parts : List Str, (tl (Str.join y parts)).length ≤ (parts.map (·.length)).sum + parts.length * y.length
  | [] => Nat.zero_le _
  | [x] => by
    show (tl x).length ≤ _
    rw [← len_tl]
    simp
  | x :: z :: r => by
    have ih := join_len y (z :: r)
    show (tl (x ++ y ++ Str.join y (z :: r))).length ≤ _
    rw [tl_append, tl_append, List.length_append, List.length_append, ← len_tl, ← len_tl]
    rw [List.map_cons, List.sum_cons, List.length_cons, Nat.succ_mul]
    omega
theorem psText_len {ps : List P2} (h : ∀ p ∈ ps, Ok p) (h20 : ps.length ≤ 20) : (psText ps).length ≤ 400 := by
  unfold psText
  rw [join_eq, len_tl]
  have h1 := join_len " " (ps.map ptText)
  have h2 := sum_le (l := ps.map ptText) (b := 17) fun x hx => by
    obtain ⟨p, hp, rfl⟩ := List.mem_map.mp hx
    exact ptText_len (h p hp)
  rw [blank_len, List.length_map] at h1
  rw [List.length_map] at h2
  omega
end Tw
namespace Tw
open PySem PySem.Spec PyProof.Rows L2
def top (i : Nat) : Stmt := PySem.Challenge.pw_twoline_k11_points_written.main.body.getD i (.Pass ⟨0, 0, 0, 0⟩)
abbrev s_LineError : Stmt := top 1
abbrev s_BadPoints : Stmt := top 2
abbrev s_BadText : Stmt := top 3
abbrev s_see_points : Stmt := top 7
abbrev s_shown : Stmt := top 11
abbrev s_number_of : Stmt := top 12
abbrev s_point_of : Stmt := top 13
abbrev s_read : Stmt := top 14
abbrev s__law_cell_at : Stmt := top 16
abbrev s__law_whole : Stmt := top 17
abbrev s__law_point_by : Stmt := top 18
abbrev s__law_points_by : Stmt := top 19
abbrev s__law_set : Stmt := top 20
abbrev s__law_is_tuple : Stmt := top 21
abbrev s__law_text : Stmt := top 22
abbrev s__law_is_points : Stmt := top 23
abbrev s_law : Stmt := top 24
section
variable {P : Program} {w : World} {K : PySem.W.Frag} {mg : Str → Option Value} {base : Heap}
/-! _law_cell_at, _law_whole -/
def spCell (K : PySem.W.Frag) : Sp := fun vs H Q _ => ∃ (a : Addr) (ns : List Int) (k : Int), vs = [.ref a, .int k] ∧ SqL K H a (ns.map V.int) ∧ 0 ≤ k ∧ ∀ n : Int, Q (.int n) H
theorem sc__law_cell_at : FnScope ["script", "k"] ["script", "k"] (defScope s__law_cell_at) := ⟨rfl, rfl, rfl, by decide +kernel, rfl, by decide +kernel, by decide +kernel⟩
theorem ok__law_cell_at (D : Df K mg "_law_cell_at" s__law_cell_at ["script", "k"]) (B : Bl mg) : FnOk P w K mg base CX0 1 D.f D.fd ["script", "k"] (spCell K) := by
  refine D.F.ok sc__law_cell_at (fun vs H Q E h => ?_) (fun cdv A outer s H vs Q E hr h => ?_)
  · obtain ⟨a, ns, k, rfl, _⟩ := h
    rfl
  · obtain ⟨a, ns, k, rfl, hS, hk, q⟩ := h
    refine ⟨_, pss_cons (ps_if (pt_cmpR op_lt (pv 1) (pe_callB call_len_seq (by rfl) B.len PySem.boot_len (pa_cons (pv 0) pa_nil)) (nomark _)) (pss_one (ps_ret (pe_ix ix_list (pv 0) (pv 1) (fun _ _ => rfl)))) pss_nil)
      (pss_one (ps_ret pe_int)), ?_⟩
    refine ⟨_, rfl, _, rfl, a, _, rfl, .inl hS, _, _, rfl, rfl, _, rfl, ite2 (fun hc => ?_) (fun hc => q _)⟩
    have hlt : k < ((ns.map V.int).length : Int) := of_decide_eq_true hc
    have hn : k.toNat < ns.length := by rw [List.length_map] at hlt; omega
    refine ⟨_, rfl, _, rfl, _, _, _, .int ns[k.toNat], rfl, rfl, hS, at_of (j := k.toNat) (by omega) ?_, q _⟩
    rw [List.getElem?_map, List.getElem?_eq_getElem hn]
    rfl
/-! _law_whole -/
def spWhole : Sp := fun vs H Q _ => ∃ n : Int, vs = [.int n] ∧ Q (.bl true) H
theorem sc__law_whole : FnScope ["found"] ["found"] (defScope s__law_whole) := ⟨rfl, rfl, rfl, by decide +kernel, rfl, by decide +kernel, by decide +kernel⟩
theorem ok__law_whole (D : Df K mg "_law_whole" s__law_whole ["found"]) (B : Bl mg) : FnOk P w K mg base CX0 1 D.f D.fd ["found"] spWhole := by
  refine D.F.ok sc__law_whole (fun vs H Q E h => ?_) (fun cdv A outer s H vs Q E hr h => ?_)
  · obtain ⟨n, rfl, _⟩ := h
    rfl
  · obtain ⟨n, rfl, q⟩ := h
    refine ⟨_, pss_one (ps_ret (pe_and (pe_callB call_isi (by rfl) B.isinstance boot_isinstance (pa_cons (pv 0) (pa_cons (pe_bltn (v := .ty "int") (by rfl) B.int boot_int rfl) pa_nil)))
      (pe_one (pe_not (pe_callB call_isi (by rfl) B.isinstance boot_isinstance (pa_cons (pv 0) (pa_cons (pe_bltn (v := .ty "bool") (by rfl) B.bool boot_bool rfl) pa_nil))))))), ?_⟩
    refine ⟨_, rfl, _, _, _, _, true, rfl, .ty "int", .base (.int n), kit_ty (by decide +kernel), true, rfl, iteT ?_⟩
    exact ⟨_, rfl, _, _, _, _, false, rfl, .ty "bool", .base (.int n), kit_ty (by decide +kernel), false, rfl, q⟩
/-! _law_is_tuple -/
def spIsT (K : PySem.W.Frag) : Sp := fun vs H Q _ => ∃ (t : Addr) (v : V) (ns ms : List Int), vs = [.ref t, v] ∧ H t = some (.tup (ns.map V.int)) ∧ Tp K H v (ms.map V.int) ∧ Q (.bl (decide (ns = ms))) H
theorem sc__law_is_tuple : FnScope ["found", "due", "number"] ["found", "due"] (defScope s__law_is_tuple) := ⟨rfl, rfl, rfl, by decide +kernel, rfl, by decide +kernel, by decide +kernel⟩
theorem ok__law_is_tuple (D : Df K mg "_law_is_tuple" s__law_is_tuple ["found", "due"]) (B : Bl mg) (C : Fn P w K mg base CX0 1 "_law_whole" ["found"] spWhole) : FnOk P w K mg base CX0 2 D.f D.fd ["found", "due"] (spIsT K) := by
  refine D.F.ok sc__law_is_tuple (fun vs H Q E h => ?_) (fun cdv A outer s H vs Q E hr h => ?_)
  · obtain ⟨t, v, ns, ms, rfl, _⟩ := h
    rfl
  · obtain ⟨t, _, ns, ms, rfl, ht, ⟨d, rfl, hd⟩, q⟩ := h
    have nd := sc__law_is_tuple.nd
    refine ⟨_, pss_cons (ps_if (PW.pt (pw_or (pt_not (pt_val (pe_callB call_isi (by rfl) B.isinstance boot_isinstance (pa_cons (pv 0) (pa_cons (pe_bltn (v := .ty "tuple") (by rfl) B.tuple boot_tuple rfl) pa_nil)))))
        (pw_or1 (pt_cmpR op_ne (pe_callB call_len_seq (by rfl) B.len PySem.boot_len (pa_cons (pv 0) pa_nil)) (pe_callB call_len_seq (by rfl) B.len PySem.boot_len (pa_cons (pv 1) pa_nil)) (nomark _))))) (pss_one (ps_ret pe_bl)) pss_nil)
      (pss_cons (ps_for PassesOwn.never rfl (pi_tup (pv 0)) (pgn 2 nd) (pss_one (ps_if (pt_not (pt_val (pcall C hr (pa_cons (pv 2) pa_nil)))) (pss_one (ps_ret pe_bl)) pss_nil)))
      (pss_one (ps_ret (pe_cmpR (op_eqD hr.units) (pv 0) (pv 1) (nomark _))))), ?_⟩
    refine ⟨_, rfl, _, _, _, _, true, rfl, .ty "tuple", .base (.tup ht), kit_ty (by decide +kernel), true, rfl, iteF ?_⟩
    refine ⟨_, rfl, t, _, rfl, .inr (SqT.of ht), _, rfl, d, _, rfl, .inr hd, rfl, _, rfl, ite2 (fun hc => ?_) (fun hc => ?_)⟩
    · have ne : ¬ ns = ms := fun e => by
        rw [e, decide_eq_true rfl] at hc
        cases hc
      rw [decide_eq_false ne] at q
      exact q
    · refine ⟨_, rfl, t, rfl, ⟨_, SqT.of ht⟩, for_tup (K := K) (a := t) (xs := ns.map V.int) (fun i σ H' => H' = H ∧ ∃ r : Option V, σ = [some (.ref t), some (.ref d), r]) ⟨rfl, none, rfl⟩ (fun i σ H' _ ⟨e, _⟩ => by rw [e]; exact SqT.of ht) ?_ ?_⟩
      · rintro i y σ H' hi ⟨rfl, r, rfl⟩
        obtain ⟨n, hn, rfl⟩ := item_int hi
        refine ⟨_, rfl, n, rfl, true, rfl, iteF ?_⟩
        exact ⟨rfl, _, rfl⟩
      · rintro σ H' ⟨rfl, r, rfl⟩
        refine ⟨_, rfl, _, rfl, tiD ns, tiD ms, tp_dp ⟨t, rfl, SqT.of ht⟩, tp_dp ⟨d, rfl, hd⟩, tiD_shaped ns, tiD_shaped ms, ?_⟩
        rw [tiD_eqv]
        exact q
/-! _law_point_by -/
theorem pick4 (a b c d : Int) (i : Int) : ∃ x, atI [V.int a, V.int b, V.int c, V.int d] (i % 4) = some (.int x) ∧ (x = a ∨ x = b ∨ x = c ∨ x = d) := by
  have h : i % 4 = ((0 : Nat) : Int) ∨ i % 4 = ((1 : Nat) : Int) ∨ i % 4 = ((2 : Nat) : Int) ∨ i % 4 = ((3 : Nat) : Int) := by omega
  rcases h with h | h | h | h
  · exact ⟨a, at_of h rfl, .inl rfl⟩
  · exact ⟨b, at_of h rfl, .inr (.inl rfl)⟩
  · exact ⟨c, at_of h rfl, .inr (.inr (.inl rfl))⟩
  · exact ⟨d, at_of h rfl, .inr (.inr (.inr rfl))⟩
theorem cpow6 : CPow 10 6 := ⟨by decide, by decide, by decide⟩
def spPointBy : Sp := fun vs H Q _ => ∃ i j k : Int, vs = [.int i, .int j, .int k] ∧ ∀ H' t p, Same H H' → H t = none → H' t = some (.tup [.int (Prod.fst (α := Int) (β := Int) p), .int p.2]) → Ok p → Q (.ref t) H'
theorem sc__law_point_by : FnScope ["one", "two", "way", "step"] ["one", "two", "way"] (defScope s__law_point_by) := ⟨rfl, rfl, rfl, by decide +kernel, rfl, by decide +kernel, by decide +kernel⟩
theorem ok__law_point_by (D : Df K mg "_law_point_by" s__law_point_by ["one", "two", "way"]) : FnOk P w K mg base CX0 1 D.f D.fd ["one", "two", "way"] spPointBy := by
  refine D.F.ok sc__law_point_by (fun vs H Q E h => ?_) (fun cdv A outer s H vs Q E hr h => ?_)
  · obtain ⟨i, j, k, rfl, _⟩ := h
    rfl
  · obtain ⟨i, j, k, rfl, q⟩ := h
    have nd := sc__law_point_by.nd
    have l2 : 2 ≤ sizeLine := by decide
    refine ⟨_, pss_cons (ps_if (pt_cmpR op_eq (pv 2) pe_int (nomark _)) (pss_one (ps_ret (pe_tup (pa_cons (pe_op op_mod (pv 0) pe_int) (pa_cons (pe_op op_mod (pv 1) pe_int) pa_nil))))) pss_nil)
      (pss_cons (ps_if (pt_cmpR op_eq (pv 2) pe_int (nomark _)) (pss_one (ps_ret (pe_tup (pa_cons (pe_op op_sub (pe_op op_mod (pv 0) pe_int) pe_int) (pa_cons (pe_op op_sub (pe_op op_mod (pv 1) pe_int) pe_int) pa_nil))))) pss_nil)
      (pss_cons (ps_if (pt_cmpR op_eq (pv 2) pe_int (nomark _)) (pss_one (ps_ret (pe_tup (pa_cons (pe_op op_sub (pe_op op_mod (pv 0) pe_int) (pe_op op_pow pe_int pe_int)) (pa_cons (pe_op op_sub (pe_op op_mod (pv 1) pe_int) (pe_op op_pow pe_int pe_int)) pa_nil))))) pss_nil)
      (pss_cons (ps_if (pt_cmpR op_eq (pv 2) pe_int (nomark _)) (pss_one (ps_ret (pe_tup (pa_cons (pe_op op_sub (pe_op op_mod (pv 0) pe_int) pe_int)
        (pa_cons (pe_op op_add (pe_op op_add (pe_op op_mul pe_int (pe_op op_sub (pe_op op_mod (pv 0) pe_int) pe_int)) (pe_op op_mul pe_int (pe_op op_mod (pv 1) pe_int))) pe_int) pa_nil))))) pss_nil)
      (pss_cons (ps_if (pt_cmpR op_eq (pv 2) pe_int (nomark _)) (pss_one (ps_ret (pe_tup (pa_cons
          (pe_ix ix_list (pe_lst (pa_cons (pe_op op_pow pe_int pe_int) (pa_cons (pe_un un_neg (pe_op op_pow pe_int pe_int)) (pa_cons pe_int (pa_cons (pe_op op_sub (pe_op op_pow pe_int pe_int) pe_int) pa_nil))))) (pe_op op_mod (pv 0) pe_int) (fun _ _ => rfl))
        (pa_cons (pe_ix ix_list (pe_lst (pa_cons (pe_op op_pow pe_int pe_int) (pa_cons (pe_un un_neg (pe_op op_pow pe_int pe_int)) (pa_cons pe_int (pa_cons (pe_op op_mod (pv 1) pe_int) pa_nil))))) (pe_op op_mod (pv 1) pe_int) (fun _ _ => rfl)) pa_nil))))) pss_nil)
      (pss_cons (pset 3 nd (pe_op op_sub (pe_op op_mod (pv 0) pe_int) pe_int))
      (pss_cons (ps_if (pt_cmpR op_eq (pe_op op_mod (pv 1) pe_int) pe_int (nomark _)) (pss_one (ps_ret (pe_tup (pa_cons (pe_op op_mul pe_int (pv 3)) (pa_cons (pe_op op_add (pe_op op_mul pe_int (pv 3)) pe_int) pa_nil))))) pss_nil)
      (pss_cons (ps_if (pt_cmpR op_eq (pe_op op_mod (pv 1) pe_int) pe_int (nomark _)) (pss_one (ps_ret (pe_tup (pa_cons (pe_op op_mul pe_int (pv 3)) (pa_cons (pe_op op_sub pe_int (pe_op op_mul pe_int (pv 3))) pa_nil))))) pss_nil)
      (pss_one (ps_ret (pe_tup (pa_cons (pe_op op_mul pe_int (pv 3)) (pa_cons (pe_op op_sub pe_int (pe_op op_mod (pe_op op_fdiv (pv 1) pe_int) pe_int)) pa_nil)))))))))))), ?_⟩
    refine ⟨_, rfl, rfl, _, rfl, ite2 (fun _ => ?_) (fun _ => ?_)⟩
    · refine ⟨_, rfl, _, _, rfl, rfl, (by show (0 : Int) < _; decide), _, rfl, _, _, rfl, rfl, (by show (0 : Int) < _; decide), l2, fun t nt => ?_⟩
      exact q _ t (i % 4, j % 4) (same_new nt) nt upd_same (by unfold Ok; dsimp only; omega)
    refine ⟨_, rfl, rfl, _, rfl, ite2 (fun _ => ?_) (fun _ => ?_)⟩
    · refine ⟨_, rfl, _, _, rfl, rfl, (by show (0 : Int) < _; decide), _, _, rfl, rfl, _, rfl, _, _, rfl, rfl, (by show (0 : Int) < _; decide), _, _, rfl, rfl, l2, fun t nt => ?_⟩
      exact q _ t (i % 7 - 3, j % 3 - 1) (same_new nt) nt upd_same (by unfold Ok; dsimp only; omega)
    refine ⟨_, rfl, rfl, _, rfl, ite2 (fun _ => ?_) (fun _ => ?_)⟩
    · refine ⟨_, rfl, _, _, rfl, rfl, (by show (0 : Int) < _; decide), _, _, rfl, rfl, cpow6, _, _, rfl, rfl, _, rfl, _, _, rfl, rfl, (by show (0 : Int) < _; decide), _, _, rfl, rfl, cpow6, _, _, rfl, rfl, l2, fun t nt => ?_⟩
      exact q _ t (i % 2000001 - 1000000, j % 2000001 - 1000000) (same_new nt) nt upd_same (by unfold Ok; dsimp only; omega)
    refine ⟨_, rfl, rfl, _, rfl, ite2 (fun _ => ?_) (fun _ => ?_)⟩
    · refine ⟨_, rfl, _, _, rfl, rfl, (by show (0 : Int) < _; decide), _, _, rfl, rfl, _, rfl, _, _, rfl, rfl, (by show (0 : Int) < _; decide), _, _, rfl, rfl, _, _, rfl, rfl, .inl ⟨by decide, by decide⟩, _, rfl, _, _, rfl, rfl, (by show (0 : Int) < _; decide), _, _, rfl, rfl, .inl ⟨by decide, by decide⟩, _, _, rfl, rfl, _, _, rfl, rfl, l2, fun t nt => ?_⟩
      exact q _ t (i % 41 - 20, 3 * (i % 41 - 20) + 5 * (j % 2) + 1) (same_new nt) nt upd_same (by unfold Ok; dsimp only; omega)
    refine ⟨_, rfl, rfl, _, rfl, ite2 (fun _ => ?_) (fun _ => ?_)⟩
    · obtain ⟨x, hx, ex⟩ := pick4 1000000 (-1000000) 0 999999 i
      obtain ⟨y, hy, ey⟩ := pick4 1000000 (-1000000) 1 (j % 9) j
      refine ⟨_, _, rfl, rfl, cpow6, _, _, rfl, rfl, cpow6, _, rfl, _, _, rfl, rfl, cpow6, _, _, rfl, rfl, (by show 4 ≤ sizeLine; decide), fun a na => ?_⟩
      refine ⟨_, rfl, _, _, rfl, rfl, (by show (0 : Int) < _; decide), _, _, _, _, rfl, rfl, SqL.of upd_same, hx, ?_⟩
      refine ⟨_, _, rfl, rfl, cpow6, _, _, rfl, rfl, cpow6, _, rfl, _, rfl, _, _, rfl, rfl, (by show (0 : Int) < _; decide), (by show 4 ≤ sizeLine; decide), fun b nb => ?_⟩
      refine ⟨_, rfl, _, _, rfl, rfl, (by show (0 : Int) < _; decide), _, _, _, _, rfl, rfl, SqL.of upd_same, hy, l2, fun t nt => ?_⟩
      have S1 : Same H (upd H a (.lst [V.int 1000000, V.int (-1000000), V.int 0, V.int 999999])) := same_new na
      have S2 := S1.trans (same_new (o := .lst [V.int 1000000, V.int (-1000000), V.int 1, V.int (j % 9)]) nb)
      have S3 := S2.trans (same_new (o := .tup [V.int x, V.int y]) nt)
      exact q _ t (x, y) S3 (S2.free nt) upd_same (by unfold Ok; dsimp only; omega)
    refine ⟨_, rfl, _, _, rfl, rfl, (by show (0 : Int) < _; decide), _, _, rfl, rfl, ?_⟩
    refine ⟨_, rfl, _, _, rfl, rfl, (by show (0 : Int) < _; decide), rfl, _, rfl, ite2 (fun _ => ?_) (fun _ => ?_)⟩
    · refine ⟨_, rfl, _, _, rfl, rfl, .inl ⟨by decide, by decide⟩, _, rfl, _, _, rfl, rfl, .inl ⟨by decide, by decide⟩, _, _, rfl, rfl, l2, fun t nt => ?_⟩
      exact q _ t (250000 * (i % 9 - 4), 100000 * (i % 9 - 4) + 7) (same_new nt) nt upd_same (by unfold Ok; dsimp only; omega)
    refine ⟨_, rfl, _, _, rfl, rfl, (by show (0 : Int) < _; decide), rfl, _, rfl, ite2 (fun _ => ?_) (fun _ => ?_)⟩
    · refine ⟨_, rfl, _, _, rfl, rfl, .inl ⟨by decide, by decide⟩, _, rfl, _, _, rfl, rfl, .inl ⟨by decide, by decide⟩, _, _, rfl, rfl, l2, fun t nt => ?_⟩
      exact q _ t (100000 * (i % 9 - 4), 7 - 200000 * (i % 9 - 4)) (same_new nt) nt upd_same (by unfold Ok; dsimp only; omega)
    · refine ⟨_, rfl, _, _, rfl, rfl, .inl ⟨by decide, by decide⟩, _, rfl, _, _, rfl, rfl, ⟨by decide, by decide⟩, _, _, rfl, rfl, (by show (0 : Int) < _; decide), _, _, rfl, rfl, l2, fun t nt => ?_⟩
      exact q _ t (1000 * (i % 9 - 4), 999999 - j / 3 % 5) (same_new nt) nt upd_same (by unfold Ok; dsimp only; omega)
/-! see_points, where it refuses nothing -/
structure Gc (mg : Str → Option Value) : Prop where
  far : ∃ t, mg "FARTHEST" = some (.int 1000000 t)
  most : ∃ t, mg "MOST" = some (.int 20 t)
def kInts (ks : List (Addr × P2)) : List (Addr × List Int) := ks.map fun k => (k.1, [k.2.1, k.2.2])
theorem kInts_refs (ks : List (Addr × P2)) : (kInts ks).map (fun p => V.ref p.1) = ks.map fun k => V.ref k.1 := by
  unfold kInts
  rw [List.map_map]
  rfl
theorem pairL_inj {p q : P2} (h : [p.1, p.2] = [q.1, q.2]) : p = q := by
  injection h with h1 h
  injection h with h2 _
  exact Prod.ext h1 h2
/-- all of unlike points are in their set -/
theorem set_len {ks : List (Addr × P2)} {L : List (Addr × List Int)} (hn : (ptsOf ks).Nodup) (hall : ∀ p ∈ kInts ks, p.2 ∈ L.map (·.2)) : ks.length ≤ L.length := by
  have h1 : ((ptsOf ks).map fun p => [p.1, p.2]).Nodup := by
    unfold List.Nodup
    rw [List.pairwise_map]
    exact List.Pairwise.imp (fun h e => h (pairL_inj e)) hn
  have h2 := nodup_sub_length h1 (B := L.map (·.2)) (fun x hx => by
    obtain ⟨p, hp, rfl⟩ := List.mem_map.mp hx
    obtain ⟨k, hk, rfl⟩ := List.mem_map.mp hp
    exact hall (k.1, [k.2.1, k.2.2]) (List.mem_map.mpr ⟨k, hk, rfl⟩))
  rw [List.length_map, List.length_map] at h2
  have h3 : (ptsOf ks).length = ks.length := List.length_map _
  omega
def spSee (K : PySem.W.Frag) : Sp := fun vs H Q _ => ∃ (a : Addr) (ks : List (Addr × P2)), vs = [.ref a] ∧ PtsL H a ks ∧ PsOk (ptsOf ks) ∧ ks.length ≤ 20 ∧ Q .non H
theorem sc_see_points : FnScope ["points", "x", "y"] ["points"] (defScope s_see_points) := ⟨rfl, rfl, rfl, by decide +kernel, rfl, by decide +kernel, by decide +kernel⟩
theorem ok_see_points (D : Df K mg "see_points" s_see_points ["points"]) (B : Bl mg) (G : Gc mg) : FnOk P w K mg base CX0 1 D.f D.fd ["points"] (spSee K) := by
  refine D.F.ok sc_see_points (fun vs H Q E h => ?_) (fun cdv A outer s H vs Q E hr h => ?_)
  · obtain ⟨a, ks, rfl, _⟩ := h
    rfl
  · obtain ⟨a, ks, rfl, L, pok, h20, q⟩ := h
    have nd := sc_see_points.nd
    obtain ⟨tf, hfar⟩ := G.far
    obtain ⟨tm, hmost⟩ := G.most
    refine ⟨_, pss_cons (ps_if (PW.pt (pw_or (pt_cmpR op_lt (pe_callB call_len_seq (by rfl) B.len PySem.boot_len (pa_cons (pv 0) pa_nil)) pe_int (nomark _))
        (pw_or1 (pt_cmpR op_gt (pe_callB call_len_seq (by rfl) B.len PySem.boot_len (pa_cons (pv 0) pa_nil)) (pe_glob (v := .int 20) rfl hmost ⟨_, rfl⟩) (nomark _))))) (pss_one ps_never) pss_nil)
      (pss_cons (ps_for PassesOwn.never rfl (pi_list (pv 0)) (pg_tup rfl (pgs_cons (pgn 1 nd) (pgs_cons (pgn 2 nd) pgs_nil)))
        (pss_one (ps_if (PW.pt (pw_or (pt_cmpR op_gt (pe_callB call_abs (by rfl) B.abs boot_abs (pa_cons (pv 1) pa_nil)) (pe_glob (v := .int 1000000) rfl hfar ⟨_, rfl⟩) (nomark _))
          (pw_or1 (pt_cmpR op_gt (pe_callB call_abs (by rfl) B.abs boot_abs (pa_cons (pv 2) pa_nil)) (pe_glob (v := .int 1000000) rfl hfar ⟨_, rfl⟩) (nomark _))))) (pss_one ps_never) pss_nil)))
      (pss_one (ps_if (pt_cmpR op_lt (pe_lenSetT rfl hr.units (by rfl) B.len (by rfl) B.set (pv 0)) (pe_callB call_len_seq (by rfl) B.len PySem.boot_len (pa_cons (pv 0) pa_nil)) (nomark _)) (pss_one ps_never) pss_nil))), ?_⟩
    have hlen : (ks.map fun k => V.ref k.1).length = ks.length := List.length_map _
    have h2 := pok.two
    have hpl : (ptsOf ks).length = ks.length := List.length_map _
    refine ⟨_, rfl, a, _, rfl, .inl (SqL.of L.lst), _, _, rfl, rfl, _, rfl, ifF (decide_eq_false (by rw [hlen]; omega)) ?_⟩
    refine ⟨_, rfl, a, _, rfl, .inl (SqL.of L.lst), _, _, rfl, rfl, _, rfl, ifF (decide_eq_false (by rw [hlen]; omega)) ?_⟩
    refine ⟨_, rfl, a, rfl, ⟨_, SqL.of L.lst⟩, for_list (K := K) (a := a) (xs := ks.map fun k => V.ref k.1) (fun i σ H' => H' = H ∧ ∃ u v, σ = [some (.ref a), u, v]) ⟨rfl, none, none, rfl⟩ (fun i σ H' _ ⟨e, _⟩ => by rw [e]; exact SqL.of L.lst) ?_ ?_⟩
    · rintro i y σ H' hi ⟨rfl, u, v, rfl⟩
      obtain ⟨k, hk, rfl⟩ := List.mem_map.mp (List.mem_of_getElem? hi)
      obtain ⟨o1, o2, o3, o4⟩ := pok.ok k.2 (List.mem_map.mpr ⟨k, hk, rfl⟩)
      refine ⟨k.1, _, rfl, SqT.of (L.tup k hk), rfl, _, _, rfl, _, _, rfl, rfl, ?_⟩
      refine ⟨_, rfl, _, rfl, _, _, rfl, rfl, _, rfl, ifF (decide_eq_false (by split <;> omega)) ?_⟩
      refine ⟨_, rfl, _, rfl, _, _, rfl, rfl, _, rfl, ifF (decide_eq_false (by split <;> omega)) ?_⟩
      exact ⟨rfl, _, _, rfl⟩
    · rintro σ H' ⟨rfl, u, v, rfl⟩
      refine ⟨_, rfl, a, kInts ks, rfl, by rw [kInts_refs]; exact SqL.of L.lst, fun p hp => ?_, ?_, fun L' hs hall hnd => ?_⟩
      · obtain ⟨k, hk, rfl⟩ := List.mem_map.mp hp
        exact SqT.of (L.tup k hk)
      · unfold kInts
        rw [List.length_map]
        omega
      · have := set_len pok.nd hall
        exact ⟨_, rfl, a, _, rfl, .inl (SqL.of L.lst), _, _, rfl, rfl, _, rfl, ifF (decide_eq_false (by rw [hlen]; omega)) q⟩
/-! _law_points_by -/
def spPointsBy (K : PySem.W.Frag) : Sp := fun vs H Q _ => ∃ (a : Addr) (ns : List Int) (st cnt way : Int), vs = [.ref a, .int st, .int cnt, .int way] ∧ SqL K H a (ns.map V.int) ∧ 0 ≤ st ∧ 0 ≤ cnt ∧ cnt ≤ 100 ∧
  ∀ H' p ks, Same H H' → H p = none → PtsL H' p ks → (∀ k ∈ ks, H k.1 = none) → PsOk (ptsOf ks) → ((ks.length : Int) ≤ cnt ∨ ks.length ≤ 2) → Q (.ref p) H'
theorem sc__law_points_by : FnScope ["script", "start", "count", "way", "points", "k", "point", "more"] ["script", "start", "count", "way"] (defScope s__law_points_by) := ⟨rfl, rfl, rfl, by decide +kernel, rfl, by decide +kernel, by decide +kernel⟩
theorem ok__law_points_by (D : Df K mg "_law_points_by" s__law_points_by ["script", "start", "count", "way"]) (B : Bl mg) (C : Fn P w K mg base CX0 1 "_law_cell_at" ["script", "k"] (spCell K))
    (F : Fn P w K mg base CX0 1 "_law_point_by" ["one", "two", "way"] spPointBy) : FnOk P w K mg base CX0 2 D.f D.fd ["script", "start", "count", "way"] (spPointsBy K) := by
  refine D.F.ok sc__law_points_by (fun vs H Q E h => ?_) (fun cdv A outer s H vs Q E hr h => ?_)
  · obtain ⟨a, ns, st, cnt, way, rfl, _⟩ := h
    rfl
  · obtain ⟨a, ns, st, cnt, way, rfl, hS, hst, hc0, hc1, q⟩ := h
    have nd := sc__law_points_by.nd
    have l2 : 2 ≤ sizeLine := by decide
    refine ⟨_, pss_cons (pset 4 nd (pe_lst pa_nil))
      (pss_cons (ps_for PassesOwn.never rfl (pi_range1 (by rfl) B.range (pa_cons (pv 2) pa_nil)) (pgn 5 nd)
        (pss_cons (pset 6 nd (pcall F hr (pa_cons (pcall C hr (pa_cons (pv 0) (pa_cons (pe_op op_add (pv 1) (pe_op op_mul pe_int (pv 5))) pa_nil)))
            (pa_cons (pcall C hr (pa_cons (pv 0) (pa_cons (pe_op op_add (pe_op op_add (pv 1) (pe_op op_mul pe_int (pv 5))) pe_int) pa_nil))) (pa_cons (pv 3) pa_nil)))))
        (pss_one (ps_if (pt_cmpR (op_notInD (hu65 hr)) (pv 6) (pv 4) (by rfl)) (pss_one (ps_expr (pe_bm PySem.F.plainAttrs_list PySem.F.slot_list_append PySem.F.type_list_append mt_append (pv 4) (pa_cons (pv 6) pa_nil)))) pss_nil))))
      (pss_cons (ps_for PassesOwn.never rfl (pi_list (pe_lst (pa_cons (pe_tup (pa_cons pe_int (pa_cons pe_int pa_nil))) (pa_cons (pe_tup (pa_cons pe_int (pa_cons pe_int pa_nil))) pa_nil)))) (pgn 7 nd)
        (pss_one (ps_if (PW.pt (pw_and (pt_cmpR op_lt (pe_callB call_len_seq (by rfl) B.len PySem.boot_len (pa_cons (pv 4) pa_nil)) pe_int (nomark _)) (pw_and1 (pt_cmpR (op_notInD (hu65 hr)) (pv 7) (pv 4) (by rfl)))))
          (pss_one (ps_expr (pe_bm PySem.F.plainAttrs_list PySem.F.slot_list_append PySem.F.type_list_append mt_append (pv 4) (pa_cons (pv 7) pa_nil)))) pss_nil)))
      (pss_one (ps_ret (pv 4))))), ?_⟩
    refine ⟨by decide, fun p np => ?_⟩
    refine ⟨_, rfl, cnt, rfl, by omega, by omega, for_range (lo := 0) (n := cnt.toNat) (fun i σ H' => ∃ ks u v, σ = [some (.ref a), some (.int st), some (.int cnt), some (.int way), some (.ref p), u, v, none] ∧
      Same H H' ∧ PtsL H' p ks ∧ (∀ k ∈ ks, H k.1 = none) ∧ (ptsOf ks).Nodup ∧ (∀ q ∈ ptsOf ks, Ok q) ∧ ks.length ≤ i) ⟨[], none, none, rfl, same_new np, ⟨upd_same, (fun k hk => by cases hk)⟩, (fun k hk => by cases hk), List.nodup_nil, (fun k hk => by cases hk), Nat.le_refl _⟩ ?_ ?_⟩
    · rintro i σ H' hi ⟨ks, u, v, rfl, S, L, fr, hn, ho, hl⟩
      refine ⟨_, rfl, _, rfl, _, rfl, _, _, rfl, rfl, .inl ⟨by decide, by decide⟩, _, _, rfl, rfl, a, ns, _, rfl, S.seq hS, by omega, fun n1 => ?_⟩
      refine ⟨_, rfl, _, rfl, _, rfl, _, _, rfl, rfl, .inl ⟨by decide, by decide⟩, _, _, rfl, rfl, _, _, rfl, rfl, a, ns, _, rfl, S.seq hS, by omega, fun n2 => ?_⟩
      refine ⟨_, rfl, _, _, _, rfl, fun H2 t r S2 nt ht hr' => ?_⟩
      have L2 := L.same S2
      have S3 := S.trans S2
      refine ⟨_, rfl, _, rfl, ptD r, _, pt_dp ⟨t, rfl, SqT.of ht⟩, L2.dp, ptD_shaped r, ptDs_shaped _, _, rfl, ?_⟩
      rw [pt_any]
      refine ite2 (fun hc => ?_) (fun hc => ?_)
      · have hni : r ∉ ptsOf ks := fun z => by
          rw [decide_eq_true z] at hc
          cases hc
        refine ⟨_, rfl, .inl ⟨rfl, _, SqL.of L2.lst⟩, _, rfl, p, _, _, rfl, rfl, L2.lst, ?_, ?_⟩
        · rw [List.length_map]
          exact small1000 (by omega)
        · refine ⟨ks ++ [(t, r)], _, _, rfl, same_upd S3 np, L2.more ht, fun k hk => ?_, ?_, fun q hq => ?_, ?_⟩
          · rcases List.mem_append.mp hk with hk | hk
            · exact fr k hk
            · have e : k = (t, r) := by simpa using hk
              rw [e]
              exact S.free nt
          · show (List.map (·.2) (ks ++ [(t, r)])).Nodup
            rw [List.map_append]
            refine List.nodup_append.mpr ⟨hn, by simp, fun x hx y hy e => ?_⟩
            have ey : y = r := by simpa using hy
            exact hni (by rw [← ey, ← e]; exact hx)
          · have : q ∈ List.map (·.2) (ks ++ [(t, r)]) := hq
            rw [List.map_append] at this
            rcases List.mem_append.mp this with z | z
            · exact ho q z
            · have ey : q = r := by simpa using z
              rw [ey]
              exact hr'
          · rw [List.length_append]
            show ks.length + 1 ≤ i + 1
            omega
      · exact ⟨ks, _, _, rfl, S3, L2, fr, hn, ho, by omega⟩
    · rintro σ H' ⟨ks, u, v, rfl, S, L, fr, hn, ho, hl⟩
      refine ⟨l2, fun t1 n1 => ?_⟩
      refine ⟨l2, fun t2 n2 => ?_⟩
      refine ⟨(by show 2 ≤ sizeLine; decide), fun ml nm => ?_⟩
      have S1 : Same H' (upd H' t1 (.tup [V.int 7, V.int 11])) := same_new n1
      have S2 := S1.trans (same_new (o := .tup [V.int 8, V.int 11]) n2)
      have S3 := S2.trans (same_new (o := .lst [V.ref t1, V.ref t2]) nm)
      have e1 : upd (upd (upd H' t1 (.tup [V.int 7, V.int 11])) t2 (.tup [V.int 8, V.int 11])) ml (.lst [V.ref t1, V.ref t2]) t1 = some (.tup [V.int 7, V.int 11]) := same_new nm _ _ (same_new n2 _ _ upd_same)
      have e2 : upd (upd (upd H' t1 (.tup [V.int 7, V.int 11])) t2 (.tup [V.int 8, V.int 11])) ml (.lst [V.ref t1, V.ref t2]) t2 = some (.tup [V.int 8, V.int 11]) := same_new nm _ _ upd_same
      have em : upd (upd (upd H' t1 (.tup [V.int 7, V.int 11])) t2 (.tup [V.int 8, V.int 11])) ml (.lst [V.ref t1, V.ref t2]) ml = some (.lst [V.ref t1, V.ref t2]) := upd_same
      refine ⟨ml, rfl, ⟨_, SqL.of upd_same⟩, ?_⟩
      generalize hH3 : upd (upd (upd H' t1 (.tup [V.int 7, V.int 11])) t2 (.tup [V.int 8, V.int 11])) ml (.lst [V.ref t1, V.ref t2]) = H3 at S3 e1 e2 em
      show ∃ W : Nat → Nat → L2.St → Hp → Prop, _
      have f1 : H t1 = none := S.free n1
      have f2 : H t2 = none := S.free (S1.free n2)
      have fm : H' ml = none := S2.free nm
      have pm : p ≠ ml := fun z => by rw [← z, L.lst] at fm; cases fm
      refine for_list (K := K) (a := ml) (xs := [V.ref t1, V.ref t2]) (fun i σ H4 => ∃ ks u v z, σ = [some (.ref a), some (.int st), some (.int cnt), some (.int way), some (.ref p), u, v, z] ∧
        Same H H4 ∧ PtsL H4 p ks ∧ (∀ k ∈ ks, H k.1 = none) ∧ (ptsOf ks).Nodup ∧ (∀ q ∈ ptsOf ks, Ok q) ∧ ((ks.length : Int) ≤ cnt ∨ ks.length ≤ 2) ∧
        H4 ml = some (.lst [V.ref t1, V.ref t2]) ∧ H4 t1 = some (.tup [V.int 7, V.int 11]) ∧ H4 t2 = some (.tup [V.int 8, V.int 11]) ∧ (i = 1 → 2 ≤ ks.length ∨ ptsOf ks = [(7, 11)]) ∧ (i = 2 → 2 ≤ ks.length)) ?_ ?_ ?_ ?_
      · exact ⟨ks, u, v, none, rfl, S.trans S3, L.same S3, fr, hn, ho, .inl (by omega), em, e1, e2, fun z => by omega, fun z => by omega⟩
      · rintro i σ H4 _ ⟨_, _, _, _, _, _, _, _, _, _, _, z, _⟩
        exact SqL.of z
      · rintro i y σ H4 hi ⟨ks, u, v, z, rfl, S, L, fr, hn, ho, hl, hm, h1, h2, hi1, hi2⟩
        obtain ⟨t, r, rfl, ht, hrk, hcase, frt⟩ : ∃ t r, y = V.ref t ∧ H4 t = some (.tup [V.int r.1, V.int r.2]) ∧ Ok r ∧ ((i = 0 ∧ r = (7, 11)) ∨ (i = 1 ∧ r = (8, 11))) ∧ H t = none := by
          match i, hi with
          | 0, hi =>
            cases hi
            exact ⟨t1, (7, 11), rfl, h1, by unfold Ok; decide, .inl ⟨rfl, rfl⟩, f1⟩
          | 1, hi =>
            cases hi
            exact ⟨t2, (8, 11), rfl, h2, by unfold Ok; decide, .inr ⟨rfl, rfl⟩, f2⟩
          | _ + 2, hi => cases hi
        have stay : 2 ≤ ks.length ∨ r ∈ ptsOf ks → (i + 1 = 1 → 2 ≤ ks.length ∨ ptsOf ks = [(7, 11)]) ∧ (i + 1 = 2 → 2 ≤ ks.length) := fun hor => by
          refine ⟨fun e => ?_, fun e => ?_⟩
          · have i0 : i = 0 := by omega
            rcases hcase with ⟨_, er⟩ | ⟨e2, _⟩
            · rcases hor with hor | hor
              · exact .inl hor
              · by_cases h2' : 2 ≤ ks.length
                · exact .inl h2'
                · refine .inr ?_
                  have hlen : (ptsOf ks).length = ks.length := List.length_map _
                  match hq : ptsOf ks, hor with
                  | [x], hor =>
                    have ex : r = x := by simpa using hor
                    rw [← ex, er]
                  | x :: x' :: l, _ =>
                    rw [hq] at hlen
                    simp only [List.length_cons] at hlen
                    omega
            · omega
          · have i1 : i = 1 := by omega
            rcases hcase with ⟨e2, _⟩ | ⟨_, er⟩
            · omega
            · rcases hor with hor | hor
              · exact hor
              · rcases hi1 i1 with h | h
                · exact h
                · rw [h, er] at hor
                  exact absurd hor (by decide)
        refine ⟨_, rfl, p, _, rfl, .inl (SqL.of L.lst), _, _, rfl, rfl, _, rfl, ite2 (fun hc => ?_) (fun hc => ?_)⟩
        · have hlt : ks.length < 2 := by
            have := of_decide_eq_true hc
            rw [List.length_map] at this
            omega
          refine ⟨_, rfl, _, rfl, ptD r, _, pt_dp ⟨t, rfl, SqT.of ht⟩, L.dp, ptD_shaped r, ptDs_shaped _, _, rfl, ?_⟩
          rw [pt_any]
          refine ite2 (fun hc => ?_) (fun hc => ?_)
          · have hni : r ∉ ptsOf ks := fun z => by
              rw [decide_eq_true z] at hc
              cases hc
            have mp : ml ≠ p := Ne.symm pm
            have np1 : t1 ≠ p := ne_of h1 L.lst (by intro z; cases z)
            have np2 : t2 ≠ p := ne_of h2 L.lst (by intro z; cases z)
            refine ⟨_, rfl, .inl ⟨rfl, _, SqL.of L.lst⟩, _, rfl, p, _, _, rfl, rfl, L.lst, ?_, ?_⟩
            · rw [List.length_map]
              exact small1000 (by omega)
            · refine ⟨ks ++ [(t, r)], _, _, _, rfl, same_upd S np, L.more ht, fun k hk => ?_, ?_, fun q hq => ?_, ?_, by rw [upd_ne mp]; exact hm, by rw [upd_ne np1]; exact h1, by rw [upd_ne np2]; exact h2, fun e => ?_, fun e => ?_⟩
              · rcases List.mem_append.mp hk with hk | hk
                · exact fr k hk
                · have e : k = (t, r) := by simpa using hk
                  rw [e]
                  exact frt
              · show (List.map (·.2) (ks ++ [(t, r)])).Nodup
                rw [List.map_append]
                refine List.nodup_append.mpr ⟨hn, by simp, fun x hx y hy e => ?_⟩
                have ey : y = r := by simpa using hy
                exact hni (by rw [← ey, ← e]; exact hx)
              · have : q ∈ List.map (·.2) (ks ++ [(t, r)]) := hq
                rw [List.map_append] at this
                rcases List.mem_append.mp this with z | z
                · exact ho q z
                · have ey : q = r := by simpa using z
                  rw [ey]
                  exact hrk
              · right
                rw [List.length_append]
                show ks.length + 1 ≤ 2
                omega
              · rcases hcase with ⟨_, er⟩ | ⟨e2, _⟩
                · by_cases h0 : ks.length = 0
                  · right
                    have : ks = [] := List.length_eq_zero_iff.mp h0
                    rw [this, er]
                    rfl
                  · left
                    rw [List.length_append]
                    show 2 ≤ ks.length + 1
                    omega
                · omega
              · rcases hcase with ⟨e2, _⟩ | ⟨e2, er⟩
                · omega
                · rw [List.length_append]
                  show 2 ≤ ks.length + 1
                  rcases hi1 e2 with h | h
                  · omega
                  · have : (ptsOf ks).length = ks.length := List.length_map _
                    rw [h] at this
                    simp only [List.length_cons, List.length_nil] at this
                    omega
          · have hin : r ∈ ptsOf ks := by
              by_cases z : r ∈ ptsOf ks
              · exact z
              · rw [decide_eq_false z] at hc
                exact absurd rfl hc
            obtain ⟨s1, s2⟩ := stay (.inr hin)
            exact ⟨ks, _, _, _, rfl, S, L, fr, hn, ho, hl, hm, h1, h2, s1, s2⟩
        · have hge : 2 ≤ ks.length := by
            by_cases z : ks.length < 2
            · refine absurd (decide_eq_true ?_) hc
              rw [List.length_map]
              omega
            · omega
          obtain ⟨s1, s2⟩ := stay (.inl hge)
          exact ⟨ks, _, _, _, rfl, S, L, fr, hn, ho, hl, hm, h1, h2, s1, s2⟩
      · rintro σ H4 ⟨ks, u, v, z, rfl, S, L, fr, hn, ho, hl, hm, h1, h2, hi1, hi2⟩
        refine ⟨_, rfl, ?_⟩
        exact q H4 p ks S np L fr ⟨hn, ho, by rw [show (ptsOf ks).length = ks.length from List.length_map _]; exact hi2 rfl⟩ hl
/-! _law_set -/
def spSet (K : PySem.W.Frag) : Sp := fun vs H Q _ => ∃ (a : Addr) (ns : List Int), vs = [.ref a] ∧ SqL K H a (ns.map V.int) ∧
  ∀ H' p ks, Same H H' → H p = none → PtsL H' p ks → (∀ k ∈ ks, H k.1 = none) → PsOk (ptsOf ks) → ks.length ≤ 20 → Q (.ref p) H'
theorem sc__law_set : FnScope ["script", "head"] ["script"] (defScope s__law_set) := ⟨rfl, rfl, rfl, by decide +kernel, rfl, by decide +kernel, by decide +kernel⟩
theorem ok__law_set (D : Df K mg "_law_set" s__law_set ["script"]) (CC : Fn P w K mg base CX0 1 "_law_cell_at" ["script", "k"] (spCell K)) (CP : Fn P w K mg base CX0 2 "_law_points_by" ["script", "start", "count", "way"] (spPointsBy K)) :
    FnOk P w K mg base CX0 3 D.f D.fd ["script"] (spSet K) := by
  refine D.F.ok sc__law_set (fun vs H Q E h => ?_) (fun cdv A outer s H vs Q E hr h => ?_)
  · obtain ⟨a, ns, rfl, _⟩ := h
    rfl
  · obtain ⟨a, ns, rfl, hS, q⟩ := h
    have nd := sc__law_set.nd
    refine ⟨_, pss_cons (pset 1 nd (pcall CC hr (pa_cons (pv 0) (pa_cons pe_int pa_nil))))
      (pss_one (ps_ret (pcall CP hr (pa_cons (pv 0) (pa_cons pe_int (pa_cons (pe_op op_add pe_int (pe_op op_mod (pv 1) pe_int)) (pa_cons (pe_op op_mod (pe_op op_fdiv (pv 1) pe_int) pe_int) pa_nil))))))), ?_⟩
    refine ⟨_, rfl, a, ns, 0, rfl, hS, by omega, fun n => ?_⟩
    refine ⟨_, rfl, _, rfl, _, _, rfl, rfl, (by show (0 : Int) < _; decide), _, _, rfl, rfl, _, rfl, _, _, rfl, rfl, ⟨by decide, by decide⟩, _, _, rfl, rfl, (by show (0 : Int) < _; decide), ?_⟩
    have h1 : 0 ≤ 2 + n % 19 ∧ 2 + n % 19 ≤ 20 := by omega
    exact ⟨a, ns, 2, 2 + n % 19, _, rfl, hS, by omega, h1.1, by omega, fun H' p ks S np L fr ok hl => q H' p ks S np L fr ok (by omega)⟩
/-! shown, the law's own text -/
theorem cut1 (w : Str) : TL.tl (cutS w none (some 1)) = (TL.tl w).take 1 := by
  unfold cutS
  rw [TL.tl_mk, HT.sIx_none]
  have h := HT.sIx_nat w.length w.length 1
  have h2 : HT.sIx w.length w.length (some 1) = min 1 w.length := h
  rw [h2, List.drop_zero, Nat.sub_zero]
  have hl := TL.len_tl w
  by_cases h1 : 1 ≤ w.length
  · rw [Nat.min_eq_left h1]
  · have e : TL.tl w = [] := List.length_eq_zero_iff.mp (by omega)
    show List.take _ (TL.tl w) = _
    rw [e, List.take_nil, List.take_nil]
theorem cutR (w : Str) : TL.tl (cutS w (some 1) none) = (TL.tl w).drop 1 := by
  unfold cutS
  rw [TL.tl_mk, HT.sIx_none]
  have h := HT.sIx_nat w.length 0 1
  have h2 : HT.sIx w.length 0 (some 1) = min 1 w.length := h
  rw [h2]
  have hl := TL.len_tl w
  show List.take _ (List.drop _ (TL.tl w)) = _
  by_cases h1 : 1 ≤ w.length
  · rw [Nat.min_eq_left h1]
    exact List.take_of_length_le (by rw [List.length_drop]; omega)
  · have e : TL.tl w = [] := List.length_eq_zero_iff.mp (by omega)
    rw [e, List.drop_nil, List.take_nil, List.drop_nil]
theorem log20 {n : Int} (h : Bd 20 n) : n.natAbs.log2 < 1920 := Nat.lt_of_lt_of_le (PySem.Flt.log2_lt_of (by decide) h) (by decide)
def spText (K : PySem.W.Frag) : Sp := fun vs H Q _ => ∃ (a : Addr) (ks : List (Addr × P2)), vs = [.ref a] ∧ PtsL H a ks ∧ PsOk (ptsOf ks) ∧ ks.length ≤ 20 ∧ ∀ H', Same H H' → Q (.str (psText (ptsOf ks))) H'
theorem strs_map (ks : List (Addr × P2)) : (ks.map fun k => V.str (ptText k.2)) = ((ptsOf ks).map ptText).map V.str := by
  unfold ptsOf
  rw [List.map_map, List.map_map]
  rfl
theorem text_sum {ps : List P2} (h : ∀ p ∈ ps, Ok p) (h20 : ps.length ≤ 20) : ((ps.map ptText).map (·.length)).sum + (ps.map ptText).length * Str.length " " ≤ 16777216 := by
  have h2 := sum_le (l := ps.map ptText) (b := 17) fun x hx => by
    obtain ⟨p, hp, rfl⟩ := List.mem_map.mp hx
    exact ptText_len (h p hp)
  rw [blank_len]
  rw [List.length_map] at h2 ⊢
  omega
/-! _law_text -/
theorem sc__law_text : FnScope ["points", "x", "y"] ["points"] (defScope s__law_text) := ⟨rfl, rfl, rfl, by decide +kernel, rfl, by decide +kernel, by decide +kernel⟩
theorem ok__law_text (D : Df K mg "_law_text" s__law_text ["points"]) (B : Bl mg) : FnOk P w K mg base CX0 1 D.f D.fd ["points"] (spText K) := by
  refine D.F.ok sc__law_text (fun vs H Q E h => ?_) (fun cdv A outer s H vs Q E hr h => ?_)
  · obtain ⟨a, ks, rfl, _⟩ := h
    rfl
  · obtain ⟨a, ks, rfl, L, pok, h20, q⟩ := h
    have nd := sc__law_text.nd
    have hpl : (ptsOf ks).length = ks.length := List.length_map _
    have hsz : sizeLine = 16777216 := sizeLine_eq
    refine ⟨_, pss_one (ps_ret (pe_join pe_str (pe_lc (own := [("x", 1), ("y", 2)]) (g := gTup K 2 (gCons (gName 1) (gCons (gName 2) gNil))) (tt := tYes) rfl nd (pi_list (pv 0)) (blkOk_by (own := [("x", 1), ("y", 2)]) (N := ["points", "x", "y"]) (sc := defScope s__law_text) (by decide +kernel)) (fun _ _ _ _ _ => pg_tup rfl (pgs_cons (pg_name (i := 1) nd rfl (Or.inl rfl)) (pgs_cons (pg_name (i := 2) nd rfl (Or.inl rfl)) pgs_nil))) (fun _ _ _ _ _ => pts_nil) (fun _ _ _ _ _ => (pe_op op_add_str (pe_op op_add_str (pe_callTy call_str_int (by rfl) B.str boot_str (pa_cons (pv 1) pa_nil)) pe_str) (pe_callTy call_str_int (by rfl) B.str boot_str (pa_cons (pv 2) pa_nil))))))), ?_⟩
    refine ⟨⟨_, rfl⟩, ?_⟩
    refine ⟨_, rfl, a, rfl, ⟨_, SqL.of L.lst⟩, fun M nM => ?_⟩
    refine lc_list (K := K) (a := a) (xs := ks.map fun k => V.ref k.1) (fun i H' => Same H H' ∧ H' M = some (.lst ((ks.take i).map fun k => V.str (ptText k.2)))) ⟨same_new nM, upd_same⟩ (fun i H' _ ⟨S, _⟩ => SqL.of (S _ _ L.lst)) ?_ ?_
    · rintro i v H' hi ⟨S, hM⟩
      obtain ⟨k, hk, rfl⟩ := at_item hi
      have mk := List.mem_of_getElem? hk
      have hil := (List.getElem?_eq_some_iff.mp hk).1
      have ok := pok.ok k.2 (List.mem_map.mpr ⟨k, mk, rfl⟩)
      have ob := ok.b
      have a1 := tS_len (n := k.2.1) ⟨ok.1, ok.2.1⟩
      have a2 := tS_len (n := k.2.2) ⟨ok.2.2.1, ok.2.2.2⟩
      have a3 := ptText_len ok
      have al : (tS k.2.1 ++ ("," : Str)).length = (tS k.2.1).length + 1 := by
        rw [TL.len_tl, TL.tl_append, List.length_append, comma_tl, ← TL.len_tl]
        rfl
      refine ⟨k.1, _, rfl, SqT.of (S _ _ (L.tup k mk)), rfl, _, _, rfl, _, _, rfl, rfl, ?_⟩
      refine ⟨rfl, tyes (ifT rfl ?_)⟩
      refine ⟨_, rfl, _, rfl, log20 ob.1, ?_⟩
      refine ⟨_, _, rfl, rfl, ?_, ?_⟩
      · show (tS k.2.1).length + Str.length "," ≤ sizeLine
        rw [comma_len]
        omega
      refine ⟨_, rfl, _, rfl, log20 ob.2, ?_⟩
      refine ⟨_, _, rfl, rfl, ?_, ?_⟩
      · show (tS k.2.1 ++ ("," : Str)).length + (tS k.2.2).length ≤ sizeLine
        omega
      refine ⟨_, hM, ?_, same_upd S nM, ?_⟩
      · rw [List.length_map, List.length_take]
        exact small1000 (by omega)
      · rw [upd_same, List.take_add_one, hk, List.map_append]
        rfl
    · rintro H' ⟨S, hM⟩
      have eM : ks.take (ks.map fun k => V.ref k.1).length = ks := List.take_of_length_le (by rw [List.length_map]; exact Nat.le_refl _)
      rw [eM, strs_map] at hM
      exact ⟨_, M, _, rfl, rfl, .inl (SqL.of hM), text_sum pok.ok (by omega), q _ S⟩
/-! shown -/
theorem sc_shown : FnScope ["points", "x", "y"] ["points"] (defScope s_shown) := ⟨rfl, rfl, rfl, by decide +kernel, rfl, by decide +kernel, by decide +kernel⟩
theorem ok_shown (D : Df K mg "shown" s_shown ["points"]) (B : Bl mg) (C_see_points : Fn P w K mg base CX0 1 "see_points" ["points"] (spSee K)) : FnOk P w K mg base CX0 2 D.f D.fd ["points"] (spText K) := by
  refine D.F.ok sc_shown (fun vs H Q E h => ?_) (fun cdv A outer s H vs Q E hr h => ?_)
  · obtain ⟨a, ks, rfl, _⟩ := h
    rfl
  · obtain ⟨a, ks, rfl, L, pok, h20, q⟩ := h
    have nd := sc_shown.nd
    have hpl : (ptsOf ks).length = ks.length := List.length_map _
    have hsz : sizeLine = 16777216 := sizeLine_eq
    refine ⟨_, pss_cons (ps_expr (pcall C_see_points hr (pa_cons (pv 0) pa_nil)))
      (pss_one (ps_ret (pe_join pe_str (pe_lc (own := [("x", 1), ("y", 2)]) (g := gTup K 2 (gCons (gName 1) (gCons (gName 2) gNil))) (tt := tYes) rfl nd (pi_list (pv 0)) (blkOk_by (own := [("x", 1), ("y", 2)]) (N := ["points", "x", "y"]) (sc := defScope s_shown) (by decide +kernel)) (fun _ _ _ _ _ => pg_tup rfl (pgs_cons (pg_name (i := 1) nd rfl (Or.inl rfl)) (pgs_cons (pg_name (i := 2) nd rfl (Or.inl rfl)) pgs_nil))) (fun _ _ _ _ _ => pts_nil) (fun _ _ _ _ _ => (pe_op op_add_str (pe_op op_add_str (pe_callTy call_str_int (by rfl) B.str boot_str (pa_cons (pv 1) pa_nil)) pe_str) (pe_callTy call_str_int (by rfl) B.str boot_str (pa_cons (pv 2) pa_nil)))))))), ?_⟩
    refine ⟨_, rfl, a, ks, rfl, L, pok, h20, ?_⟩
    refine ⟨⟨_, rfl⟩, ?_⟩
    refine ⟨_, rfl, a, rfl, ⟨_, SqL.of L.lst⟩, fun M nM => ?_⟩
    refine lc_list (K := K) (a := a) (xs := ks.map fun k => V.ref k.1) (fun i H' => Same H H' ∧ H' M = some (.lst ((ks.take i).map fun k => V.str (ptText k.2)))) ⟨same_new nM, upd_same⟩ (fun i H' _ ⟨S, _⟩ => SqL.of (S _ _ L.lst)) ?_ ?_
    · rintro i v H' hi ⟨S, hM⟩
      obtain ⟨k, hk, rfl⟩ := at_item hi
      have mk := List.mem_of_getElem? hk
      have hil := (List.getElem?_eq_some_iff.mp hk).1
      have ok := pok.ok k.2 (List.mem_map.mpr ⟨k, mk, rfl⟩)
      have ob := ok.b
      have a1 := tS_len (n := k.2.1) ⟨ok.1, ok.2.1⟩
      have a2 := tS_len (n := k.2.2) ⟨ok.2.2.1, ok.2.2.2⟩
      have a3 := ptText_len ok
      have al : (tS k.2.1 ++ ("," : Str)).length = (tS k.2.1).length + 1 := by
        rw [TL.len_tl, TL.tl_append, List.length_append, comma_tl, ← TL.len_tl]
        rfl
      refine ⟨k.1, _, rfl, SqT.of (S _ _ (L.tup k mk)), rfl, _, _, rfl, _, _, rfl, rfl, ?_⟩
      refine ⟨rfl, tyes (ifT rfl ?_)⟩
      refine ⟨_, rfl, _, rfl, log20 ob.1, ?_⟩
      refine ⟨_, _, rfl, rfl, ?_, ?_⟩
      · show (tS k.2.1).length + Str.length "," ≤ sizeLine
        rw [comma_len]
        omega
      refine ⟨_, rfl, _, rfl, log20 ob.2, ?_⟩
      refine ⟨_, _, rfl, rfl, ?_, ?_⟩
      · show (tS k.2.1 ++ ("," : Str)).length + (tS k.2.2).length ≤ sizeLine
        omega
      refine ⟨_, hM, ?_, same_upd S nM, ?_⟩
      · rw [List.length_map, List.length_take]
        exact small1000 (by omega)
      · rw [upd_same, List.take_add_one, hk, List.map_append]
        rfl
    · rintro H' ⟨S, hM⟩
      have eM : ks.take (ks.map fun k => V.ref k.1).length = ks := List.take_of_length_le (by rw [List.length_map]; exact Nat.le_refl _)
      rw [eM, strs_map] at hM
      exact ⟨_, M, _, rfl, rfl, .inl (SqL.of hM), text_sum pok.ok (by omega), q _ S⟩
/-! number_of, of a good word -/
structure Gt (mg : Str → Option Value) : Prop where
  fig : ∃ t, mg "FIGURES" = some (.str "0123456789" t)
  long : ∃ t, mg "LONGEST" = some (.int 7 t)
theorem fig_tl : TL.tl "0123456789" = [48, 49, 50, 51, 52, 53, 54, 55, 56, 57] := TL.tl_ofString "0123456789"
theorem fig_mem {c : Nat} : c ∈ (Str.cps "0123456789").toList ↔ 48 ≤ c ∧ c ≤ 57 := by
  show c ∈ TL.tl "0123456789" ↔ _
  rw [fig_tl]
  simp
  omega
theorem minus_tl : TL.tl "-" = [45] := TL.tl_ofString "-"
theorem zero_tl : TL.tl "0" = [48] := TL.tl_ofString "0"
theorem str_dec (a b : Str) : decide (V.str a = V.str b) = decide (TL.tl a = TL.tl b) := by
  by_cases h : TL.tl a = TL.tl b
  · have e := TL.ext_tl h
    rw [e, decide_eq_true rfl, decide_eq_true rfl]
  · rw [decide_eq_false h, decide_eq_false (fun z => h (by rw [V.str.inj z]))]
def spNum : Sp := fun vs H Q _ => ∃ w : Str, vs = [.str w] ∧ GoodL (TL.tl w) ∧ Q (.int (valL (TL.tl w))) H
theorem sc_number_of : FnScope ["word", "figures", "sign"] ["word"] (defScope s_number_of) := ⟨rfl, rfl, rfl, by decide +kernel, rfl, by decide +kernel, by decide +kernel⟩
theorem ok_number_of (D : Df K mg "number_of" s_number_of ["word"]) (B : Bl mg) (G : Gt mg) : FnOk P w K mg base CX0 1 D.f D.fd ["word"] spNum := by
  refine D.F.ok sc_number_of (fun vs H Q E h => ?_) (fun cdv A outer s H vs Q E hr h => ?_)
  · obtain ⟨w, rfl, _⟩ := h
    rfl
  · obtain ⟨w, rfl, g, q⟩ := h
    have nd := sc_number_of.nd
    obtain ⟨tf, hfig⟩ := G.fig
    obtain ⟨tl, hlong⟩ := G.long
    obtain ⟨gi, gl⟩ := good_int g
    have hsz : sizeLine = 16777216 := sizeLine_eq
    refine ⟨_, pss_cons (pset 1 nd (pv 0))
      (pss_cons (ps_if (pt_cmpR op_eq (pe_slice sl_str (pv 0) po_none (po_some pe_int)) pe_str (nomark _)) (pss_one (pset 1 nd (pe_slice sl_str (pv 0) (po_some pe_int) po_none))) pss_nil)
      (pjoin (u := fun D' σ H' => ∃ f : Str, σ = [some (.str w), some (.str f), none] ∧ H' = H ∧ TL.tl f = figL (TL.tl w) ∧ D'.rt (.int (valL (TL.tl w))) H)
      (pss_cons (ps_if (PW.pt (pw_or (pt_cmpR op_lt (pe_callB call_len_str (by rfl) B.len PySem.boot_len (pa_cons (pv 1) pa_nil)) pe_int (nomark _)) (pw_or (pt_cmpR op_gt (pe_callB call_len_str (by rfl) B.len PySem.boot_len (pa_cons (pv 1) pa_nil)) (pe_glob (v := .int 7) rfl hlong ⟨_, rfl⟩) (nomark _)) (pw_or1 (PW.pt (pw_and (pt_cmpR op_eq (pe_ix ix_str (pv 1) pe_int (fun _ _ => rfl)) pe_str (nomark _)) (pw_and1 (pt_cmpR op_ne (pv 0) pe_str (nomark _))))))))) (pss_one ps_never) pss_nil)
      (pss_cons (ps_for PassesOwn.never rfl (pi_str (pv 1)) (pgn 2 nd) (pss_one (ps_if (pt_cmpR op_notIn_sign (pv 2) (pe_glob (v := .str "0123456789") rfl hfig ⟨_, rfl⟩) (by rfl)) (pss_one ps_never) pss_nil)))
      (pss_one (ps_ret (pe_callTy call_int_str (by rfl) B.int boot_int (pa_cons (pv 0) pa_nil)))))) ?_)), ?_⟩
    · rintro D' σ H' ⟨f, rfl, rfl, ef, q'⟩
      have fl := TL.len_tl f
      rw [ef] at fl
      have g1 := g.one
      have g7 := g.most
      refine ⟨_, rfl, _, rfl, by omega, _, _, rfl, rfl, _, rfl, ifF (decide_eq_false (by omega)) ?_⟩
      refine ⟨_, rfl, _, rfl, by omega, _, _, rfl, rfl, _, rfl, ifF (decide_eq_false (by omega)) ?_⟩
      obtain ⟨c, r, ec⟩ : ∃ c r, TL.tl f = c :: r := by
        cases e : TL.tl f with
        | nil =>
          rw [← ef, e] at g1
          exact absurd g1 (by decide)
        | cons c r => exact ⟨c, r, rfl⟩
      have h0 : atI (TL.tl f) 0 = some c := atI_nat (j := 0) (by rw [ec]; rfl)
      refine ⟨_, rfl, f, 0, c, rfl, rfl, by omega, h0, rfl, _, rfl, ?_⟩
      by_cases hc : c = 48
      · have ew : TL.tl w = [48] := g.nought (by rw [← ef, ec, hc]; rfl)
        refine ifT (by rw [str_dec, zero_tl]; exact decide_eq_true (by rw [hc])) ?_
        refine ⟨_, rfl, rfl, _, rfl, ifF (by rw [str_dec, ew, zero_tl]; rfl) ?_⟩
        refine ⟨_, rfl, f, rfl, for_it walk_str (fun i σ H2 => H2 = H' ∧ ∃ r, σ = [some (.str w), some (.str f), r]) ⟨rfl, none, rfl⟩ (fun _ _ _ _ _ => trivial) ?_ ?_⟩
        · rintro i x σ H1 H2 hi ⟨rfl, r, rfl⟩ ⟨rfl, d, hd, rfl⟩
          have md : d ∈ TL.tl f := Array.mem_toList_iff.mpr (Array.mem_of_getElem? hd)
          rw [ef] at md
          refine ⟨_, rfl, d, _, rfl, rfl, _, rfl, ifF ?_ ?_⟩
          · rw [decide_eq_true (fig_mem.mpr (g.dig d md))]
            rfl
          · exact ⟨rfl, _, rfl⟩
        · rintro σ H1 ⟨rfl, r, rfl⟩
          exact ⟨_, rfl, w, _, rfl, gi, by omega, q'⟩
      · refine ifF (by rw [str_dec, zero_tl]; exact decide_eq_false (fun z => hc (by have z2 : [c] = [48] := z; simpa using z2))) ?_
        refine ⟨_, rfl, f, rfl, for_it walk_str (fun i σ H2 => H2 = H' ∧ ∃ r, σ = [some (.str w), some (.str f), r]) ⟨rfl, none, rfl⟩ (fun _ _ _ _ _ => trivial) ?_ ?_⟩
        · rintro i x σ H1 H2 hi ⟨rfl, r, rfl⟩ ⟨rfl, d, hd, rfl⟩
          have md : d ∈ TL.tl f := Array.mem_toList_iff.mpr (Array.mem_of_getElem? hd)
          rw [ef] at md
          refine ⟨_, rfl, d, _, rfl, rfl, _, rfl, ifF ?_ ?_⟩
          · rw [decide_eq_true (fig_mem.mpr (g.dig d md))]
            rfl
          · exact ⟨rfl, _, rfl⟩
        · rintro σ H1 ⟨rfl, r, rfl⟩
          exact ⟨_, rfl, w, _, rfl, gi, by omega, q'⟩
    · refine ⟨_, rfl, ?_⟩
      refine ⟨_, rfl, _, rfl, w, rfl, by omega, rfl, _, rfl, ?_⟩
      rw [str_dec, cut1, minus_tl]
      by_cases hm : (TL.tl w).take 1 = [45]
      · refine ifT (decide_eq_true hm) ?_
        refine ⟨_, rfl, _, rfl, w, rfl, by omega, ?_⟩
        exact ⟨_, rfl, rfl, by rw [cutR]; exact (if_pos hm).symm, q⟩
      · exact ifF (decide_eq_false hm) ⟨_, rfl, rfl, (if_neg hm).symm, q⟩
/-! point_of, of a good word -/
def spPt : Sp := fun vs H Q _ => ∃ w a b : Str, vs = [.str w] ∧ Txt.split w "," = [a, b] ∧ w.length ≤ 1000 ∧ GoodL (TL.tl a) ∧ GoodL (TL.tl b) ∧
  ∀ H' t, Same H H' → H t = none → H' t = some (.tup [.int (valL (TL.tl a)), .int (valL (TL.tl b))]) → Q (.ref t) H'
theorem sc_point_of : FnScope ["word", "parts"] ["word"] (defScope s_point_of) := ⟨rfl, rfl, rfl, by decide +kernel, rfl, by decide +kernel, by decide +kernel⟩
theorem ok_point_of (D : Df K mg "point_of" s_point_of ["word"]) (B : Bl mg) (C_number_of : Fn P w K mg base CX0 1 "number_of" ["word"] spNum) : FnOk P w K mg base CX0 2 D.f D.fd ["word"] spPt := by
  refine D.F.ok sc_point_of (fun vs H Q E h => ?_) (fun cdv A outer s H vs Q E hr h => ?_)
  · obtain ⟨w, a, b, rfl, _⟩ := h
    rfl
  · obtain ⟨w, a, b, rfl, es, hl, ga, gb, q⟩ := h
    have nd := sc_point_of.nd
    have hsz : sizeLine = 16777216 := sizeLine_eq
    refine ⟨_, pss_cons (pset 1 nd (pe_split (pv 0) pe_str))
      (pss_cons (ps_if (pt_cmpR op_ne (pe_callB call_len_seq (by rfl) B.len PySem.boot_len (pa_cons (pv 1) pa_nil)) pe_int (nomark _)) (pss_one ps_never) pss_nil)
      (pss_one (ps_ret (pe_tup (pa_cons (pcall C_number_of hr (pa_cons (pe_ix ix_list (pv 1) pe_int (fun _ _ => rfl)) pa_nil)) (pa_cons (pcall C_number_of hr (pa_cons (pe_ix ix_list (pv 1) pe_int (fun _ _ => rfl)) pa_nil)) pa_nil)))))), ?_⟩
    refine ⟨_, rfl, ⟨_, rfl⟩, w, _, rfl, rfl, by rw [comma_len]; rfl, by omega, fun p np => ?_⟩
    rw [es]
    have S := same_new (o := .lst ([a, b].map V.str)) np
    refine ⟨_, rfl, p, _, rfl, .inl (SqL.of upd_same), rfl, _, rfl, ifF (by rfl) ?_⟩
    refine ⟨_, rfl, _, _, _, _, rfl, rfl, SqL.of upd_same, at0, ?_⟩
    refine ⟨a, rfl, ga, ?_⟩
    refine ⟨_, rfl, _, _, _, _, rfl, rfl, SqL.of upd_same, at1, ?_⟩
    refine ⟨b, rfl, gb, ?_⟩
    refine ⟨(by show 2 ≤ sizeLine; decide), fun t nt => ?_⟩
    have S2 := same_new (o := .tup [V.int (valL (TL.tl a)), V.int (valL (TL.tl b))]) nt
    exact q _ t (S.trans S2) (S.free nt) upd_same
/-! read, of a text of points -/
def spRead (K : PySem.W.Frag) : Sp := fun vs H Q _ => ∃ ps : List P2, vs = [.str (psText ps)] ∧ PsOk ps ∧ ps.length ≤ 20 ∧ ∀ H' p ks, Same H H' → H p = none → PtsL H' p ks → ptsOf ks = ps → Q (.ref p) H'
theorem sc_read : FnScope ["text", "points", "word"] ["text"] (defScope s_read) := ⟨rfl, rfl, rfl, by decide +kernel, rfl, by decide +kernel, by decide +kernel⟩
theorem ok_read (D : Df K mg "read" s_read ["text"]) (B : Bl mg) (C_see_points : Fn P w K mg base CX0 1 "see_points" ["points"] (spSee K)) (C_point_of : Fn P w K mg base CX0 2 "point_of" ["word"] spPt) : FnOk P w K mg base CX0 3 D.f D.fd ["text"] (spRead K) := by
  refine D.F.ok sc_read (fun vs H Q E h => ?_) (fun cdv A outer s H vs Q E hr h => ?_)
  · obtain ⟨ps, rfl, _⟩ := h
    rfl
  · obtain ⟨ps, rfl, pok, h20, q⟩ := h
    have nd := sc_read.nd
    have hsz : sizeLine = 16777216 := sizeLine_eq
    have p2 := pok.two
    have tl := psText_len pok.ok h20
    refine ⟨_, pss_cons (ps_setLc (i := 1) (own := [("word", 2)]) (g := gName 2) (tt := tYes) rfl nd rfl rfl (sw_true rfl rfl rfl (by decide +kernel)) (pi_list (pe_split (pv 0) pe_str)) (blkOk_by (own := [("word", 2)]) (N := ["text", "points", "word"]) (sc := defScope s_read) (by decide +kernel)) (fun _ _ _ _ _ => pg_name (i := 2) nd rfl (Or.inl rfl)) (fun _ _ _ _ _ => pts_nil) (fun _ _ _ _ _ => (pcall C_point_of hr (pa_cons (pv 2) pa_nil))))
      (pss_cons (ps_try_thru0 (pss_one (ps_expr (pcall C_see_points hr (pa_cons (pv 1) pa_nil)))))
      (pss_one (ps_ret (pv 1)))), ?_⟩
    refine ⟨_, rfl, ⟨_, rfl⟩, _, _, rfl, rfl, by rw [blank_len]; rfl, by omega, fun p np => ?_⟩
    rw [psText_split (by intro e; rw [e] at p2; exact absurd p2 (by decide))]
    have S := same_new (o := .lst ((ps.map ptText).map V.str)) np
    have hp : upd H p (.lst ((ps.map ptText).map V.str)) p = _ := upd_same
    generalize upd H p (.lst ((ps.map ptText).map V.str)) = H1 at S hp ⊢
    refine ⟨p, rfl, ⟨_, SqL.of hp⟩, fun M nM => ?_⟩
    refine lc_list (K := K) (a := p) (xs := (ps.map ptText).map V.str) (fun i H' => ∃ ks : List (Addr × P2), Same H1 H' ∧ PtsL H' M ks ∧ ptsOf ks = ps.take i) ⟨[], same_new nM, ⟨upd_same, (fun k hk => by cases hk)⟩, rfl⟩ (fun i H' _ ⟨_, S, _⟩ => SqL.of (S _ _ hp)) ?_ ?_
    · rintro i v H' hi ⟨ks, S2, LM, em⟩
      obtain ⟨x, hx, rfl⟩ := at_item hi
      obtain ⟨r, hr1, rfl⟩ : ∃ r, ps[i]? = some r ∧ x = ptText r := by
        rw [List.getElem?_map] at hx
        cases e : ps[i]? with
        | none => rw [e] at hx; cases hx
        | some r => rw [e] at hx; exact ⟨r, rfl, (Option.some.inj hx).symm⟩
      have mr := List.mem_of_getElem? hr1
      have ok := pok.ok r mr
      have hil := (List.getElem?_eq_some_iff.mp hr1).1
      obtain ⟨g1, v1⟩ := good_tS (n := r.1) ⟨ok.1, ok.2.1⟩
      obtain ⟨g2, v2⟩ := good_tS (n := r.2) ⟨ok.2.2.1, ok.2.2.2⟩
      have kl : ks.length = i := by
        have e1 : (ptsOf ks).length = ks.length := List.length_map _
        rw [em, List.length_take] at e1
        omega
      refine ⟨rfl, tyes (ifT rfl ?_)⟩
      refine ⟨_, rfl, _, _, _, rfl, ptText_split r, Nat.le_trans (ptText_len ok) (by decide), g1, g2, fun H3 t S3 nt ht => ?_⟩
      rw [v1, v2] at ht
      have LM3 := LM.same S3
      refine ⟨_, LM3.lst, ?_, ks ++ [(t, r)], same_upd (S2.trans S3) nM, LM3.more (q := r) ht, ?_⟩
      · rw [List.length_map]
        exact small1000 (by omega)
      · show List.map (·.2) (ks ++ _) = _
        rw [List.map_append, List.take_add_one, hr1]
        exact congrArg (· ++ _) em
    · rintro H' ⟨ks, S2, LM, em⟩
      have e1 : ptsOf ks = ps := by
        rw [em]
        exact List.take_of_length_le (by rw [List.length_map, List.length_map]; exact Nat.le_refl _)
      have kl : ks.length ≤ 20 := by
        have e2 : (ptsOf ks).length = ks.length := List.length_map _
        rw [e1] at e2
        omega
      refine ⟨_, rfl, M, ks, rfl, LM, by rw [e1]; exact pok, kl, ?_⟩
      exact ⟨_, rfl, q _ M ks (S.trans S2) (S.free nM) LM e1⟩
/-! _law_is_points, of the same points -/
def spIsPts (K : PySem.W.Frag) : Sp := fun vs H Q _ => ∃ (a b : Addr) (ks ls : List (Addr × P2)), vs = [.ref a, .ref b] ∧ PtsL H a ks ∧ PtsL H b ls ∧ ptsOf ks = ptsOf ls ∧ ks.length ≤ 20 ∧ Q (.bl true) H
theorem sc__law_is_points : FnScope ["found", "due", "k"] ["found", "due"] (defScope s__law_is_points) := ⟨rfl, rfl, rfl, by decide +kernel, rfl, by decide +kernel, by decide +kernel⟩
theorem ok__law_is_points (D : Df K mg "_law_is_points" s__law_is_points ["found", "due"]) (B : Bl mg) (C__law_is_tuple : Fn P w K mg base CX0 2 "_law_is_tuple" ["found", "due"] (spIsT K)) : FnOk P w K mg base CX0 3 D.f D.fd ["found", "due"] (spIsPts K) := by
  refine D.F.ok sc__law_is_points (fun vs H Q E h => ?_) (fun cdv A outer s H vs Q E hr h => ?_)
  · obtain ⟨a, b, ks, ls, rfl, _⟩ := h
    rfl
  · obtain ⟨a, b, ks, ls, rfl, L, M, e, h20, q⟩ := h
    have nd := sc__law_is_points.nd
    have hpl : (ptsOf ks).length = ks.length := List.length_map _
    have hql : (ptsOf ls).length = ls.length := List.length_map _
    have hlen : (ks.map fun k => V.ref k.1).length = ks.length := List.length_map _
    have hlen2 : (ls.map fun k => V.ref k.1).length = ls.length := List.length_map _
    rw [e] at hpl
    refine ⟨_, pss_cons (ps_if (PW.pt (pw_or (pt_not (pt_val (pe_callB call_isi (by rfl) B.isinstance boot_isinstance (pa_cons (pv 0) (pa_cons (pe_bltn (v := .ty "list") (by rfl) B.list boot_list rfl) pa_nil))))) (pw_or1 (pt_cmpR op_ne (pe_callB call_len_seq (by rfl) B.len PySem.boot_len (pa_cons (pv 0) pa_nil)) (pe_callB call_len_seq (by rfl) B.len PySem.boot_len (pa_cons (pv 1) pa_nil)) (nomark _))))) (pss_one (ps_ret pe_bl)) pss_nil)
      (pss_cons (ps_for PassesOwn.never rfl (pi_range1 (by rfl) B.range (pa_cons (pe_callB call_len_seq (by rfl) B.len PySem.boot_len (pa_cons (pv 1) pa_nil)) pa_nil)) (pgn 2 nd) (pss_one (ps_if (pt_not (pt_val (pcall C__law_is_tuple hr (pa_cons (pe_ix ix_list (pv 0) (pv 2) (fun _ _ => rfl)) (pa_cons (pe_ix ix_list (pv 1) (pv 2) (fun _ _ => rfl)) pa_nil))))) (pss_one (ps_ret pe_bl)) pss_nil)))
      (pss_one (ps_ret pe_bl))), ?_⟩
    refine ⟨_, rfl, _, _, _, _, true, rfl, .ty "list", .base (.lst L.lst), kit_ty (by decide +kernel), true, rfl, iteF ?_⟩
    refine ⟨_, rfl, a, _, rfl, .inl (SqL.of L.lst), _, rfl, b, _, rfl, .inl (SqL.of M.lst), rfl, _, rfl, ifF (by rw [hlen, hlen2, ← hpl, ← hql, decide_eq_true rfl]; rfl) ?_⟩
    refine ⟨_, rfl, b, _, rfl, .inl (SqL.of M.lst), ((ls.length : Nat) : Int), by rw [hlen2], by omega, by omega, ?_⟩
    refine for_range (lo := 0) (n := ((ls.length : Nat) : Int).toNat) (fun i σ H' => H' = H ∧ ∃ x, σ = [some (.ref a), some (.ref b), x]) ⟨rfl, none, rfl⟩ ?_ ?_
    · rintro i σ H' hi ⟨rfl, x, rfl⟩
      obtain ⟨t, e1, m1⟩ := pts_at (ks := ks) (k := i) (by omega)
      obtain ⟨u, e2, m2⟩ := pts_at (ks := ls) (k := i) (by omega)
      rw [← e] at e2 m2
      refine ⟨_, rfl, _, rfl, _, _, _, _, rfl, rfl, SqL.of L.lst, at_of (j := i) (by omega) (by rw [List.getElem?_map, e1]; rfl), _, rfl, _, rfl, _, _, _, _, rfl, rfl, SqL.of M.lst, at_of (j := i) (by omega) (by rw [List.getElem?_map, e2]; rfl), ?_⟩
      refine ⟨t, _, [(ptAt (ptsOf ks) i).1, (ptAt (ptsOf ks) i).2], [(ptAt (ptsOf ks) i).1, (ptAt (ptsOf ks) i).2], rfl, L.tup _ m1, ⟨u, rfl, SqT.of (M.tup _ m2)⟩, true, by rw [decide_eq_true rfl], iteF ?_⟩
      exact ⟨rfl, _, rfl⟩
    · rintro σ H' ⟨rfl, x, rfl⟩
      exact q
/-! law -/
theorem sc_law : FnScope ["script", "points", "handed", "found", "back"] ["script"] (defScope s_law) := ⟨rfl, rfl, rfl, by decide +kernel, rfl, by decide +kernel, by decide +kernel⟩
theorem ok_law (D : Df K mg "law" s_law ["script"]) (B : Bl mg) (C__law_set : Fn P w K mg base CX0 3 "_law_set" ["script"] (spSet K)) (C_shown : Fn P w K mg base CX0 2 "shown" ["points"] (spText K)) (C__law_text : Fn P w K mg base CX0 1 "_law_text" ["points"] (spText K))
    (C_read : Fn P w K mg base CX0 3 "read" ["text"] (spRead K)) (C__law_is_points : Fn P w K mg base CX0 3 "_law_is_points" ["found", "due"] (spIsPts K)) : FnOk P w K mg base CX0 5 D.f D.fd ["script"] (spLaw K) := by
  refine D.F.ok sc_law (fun vs H Q E h => ?_) (fun cdv A outer s H vs Q E hr h => ?_)
  · obtain ⟨a, ns, rfl, _⟩ := h
    rfl
  · obtain ⟨a, ns, rfl, hS, _, q⟩ := h
    have nd := sc_law.nd
    refine ⟨_, pss_cons (pset 1 nd (pcall C__law_set hr (pa_cons (pv 0) pa_nil)))
      (pss_cons (pset 2 nd (pe_callTy call_list_of (by rfl) B.list boot_list (pa_cons (pv 1) pa_nil)))
      (pss_cons (pset 3 nd (pcall C_shown hr (pa_cons (pv 2) pa_nil)))
      (pss_cons (ps_if (PW.pt (pw_or (pt_cmpR (op_neD hr.units) (pv 2) (pv 1) (nomark _)) (pw_or (pt_not (pt_val (pe_callB call_isi (by rfl) B.isinstance boot_isinstance (pa_cons (pv 3) (pa_cons (pe_bltn (v := .ty "str") (by rfl) B.str boot_str rfl) pa_nil))))) (pw_or1 (pt_cmpR op_ne (pv 3) (pcall C__law_text hr (pa_cons (pv 1) pa_nil)) (nomark _)))))) (pss_one (ps_ret pe_bl)) pss_nil)
      (pss_cons (pset 4 nd (pcall C_read hr (pa_cons (pv 3) pa_nil)))
      (pss_cons (ps_if (pt_not (pt_val (pcall C__law_is_points hr (pa_cons (pv 4) (pa_cons (pv 1) pa_nil))))) (pss_one (ps_ret pe_bl)) pss_nil)
      (pss_cons (ps_expr (pe_bm0 PySem.F.plainAttrs_list PySem.F.slot_list_clear PySem.F.type_list_clear mt_clear (pv 4)))
      (pss_one (ps_ret (pcall C__law_is_points hr (pa_cons (pcall C_read hr (pa_cons (pv 3) pa_nil)) (pa_cons (pv 1) pa_nil))))))))))), ?_⟩
    refine ⟨_, rfl, a, ns, rfl, hS, fun H1 p ks S np L fr pok h20 => ?_⟩
    refine ⟨_, rfl, p, _, rfl, .inl (SqL.of L.lst), fun h nh => ?_⟩
    have S1 := same_new (o := .lst (ks.map fun k => V.ref k.1)) nh
    have Lh : PtsL (upd H1 h (.lst (ks.map fun k => V.ref k.1))) h ks := ⟨upd_same, fun k hk => S1 _ _ (L.tup k hk)⟩
    refine ⟨_, rfl, h, ks, rfl, Lh, pok, h20, fun H2 S2 => ?_⟩
    have Lh2 := Lh.same S2
    have L2 := L.same (S1.trans S2)
    refine ⟨_, rfl, _, rfl, _, _, Lh2.dp, L2.dp, ptDs_shaped _, ptDs_shaped _, _, rfl, ?_⟩
    rw [pts_eqv, decide_eq_true rfl]
    refine iteF ?_
    refine ⟨_, rfl, _, _, _, _, true, rfl, .ty "str", .base (.str _), kit_ty (by decide +kernel), true, rfl, iteF ?_⟩
    refine ⟨_, rfl, _, rfl, p, ks, rfl, L2, pok, h20, fun H3 S3 => ?_⟩
    refine ⟨rfl, _, rfl, ifF (by rw [decide_eq_true rfl]; rfl) ?_⟩
    refine ⟨_, rfl, ptsOf ks, rfl, pok, by rw [show (ptsOf ks).length = ks.length from List.length_map _]; exact h20, fun H4 b ls S4 nb M eM => ?_⟩
    have lsl : ls.length ≤ 20 := by
      have e1 : (ptsOf ls).length = ls.length := List.length_map _
      rw [eM, show (ptsOf ks).length = ks.length from List.length_map _] at e1
      omega
    have L4 := L2.same (S3.trans S4)
    refine ⟨_, rfl, _, rfl, b, p, ls, ks, rfl, M, L4, eM, lsl, true, rfl, iteF ?_⟩
    refine ⟨_, rfl, .inl ⟨rfl, _, SqL.of M.lst⟩, b, _, rfl, rfl, M.lst, ?_⟩
    have S5 := same_upd (o := .lst []) S4 nb
    have L5 := (L2.same S3).same S5
    refine ⟨_, rfl, ptsOf ks, rfl, pok, by rw [show (ptsOf ks).length = ks.length from List.length_map _]; exact h20, fun H6 b2 ls2 S6 nb2 M2 eM2 => ?_⟩
    have lsl2 : ls2.length ≤ 20 := by
      have e1 : (ptsOf ls2).length = ls2.length := List.length_map _
      rw [eM2, show (ptsOf ks).length = ks.length from List.length_map _] at e1
      omega
    exact ⟨_, rfl, b2, p, ls2, ks, rfl, M2, L5.same S6, eM2, lsl2, q _⟩
end
theorem all_mk {l : PySem.W.OpenLaw} {w : World} {K : PySem.W.Frag} {h : Heap} {mg : Str → Option Value} {fa : Addr} (X : K.In h) (G : h.Ns mainGlobals mg) (hfa : mg "law" = some (.ref fa))
    (gfar : ∃ t, mg "FARTHEST" = some (.int 1000000 t))
    {f1 : Addr} {od1 an1 : Option Addr} {sl1 : Array (Option Value)} {oc1 kV1 dc1 pm1 cd1 ct1 : Value} (a1 : PySem.W.nsIn K mainGlobals "see_points" = some (some (.ref f1)))
    (l1 : K.lookup f1 = some ⟨oc1, od1, .func (PySem.W.fnOf "see_points" "see_points" (defArgs s_see_points) (defBody s_see_points) (defScope s_see_points) .none kV1 dc1 pm1 an1 cd1 ct1), sl1⟩) (c1 : PySem.W.codeIn K cd1 "see_points" = true) (k1 : PySem.W.keepIn K (.ref f1) = true)
    {f2 : Addr} {od2 an2 : Option Addr} {sl2 : Array (Option Value)} {oc2 kV2 dc2 pm2 cd2 ct2 : Value} (a2 : PySem.W.nsIn K mainGlobals "shown" = some (some (.ref f2)))
    (l2 : K.lookup f2 = some ⟨oc2, od2, .func (PySem.W.fnOf "shown" "shown" (defArgs s_shown) (defBody s_shown) (defScope s_shown) .none kV2 dc2 pm2 an2 cd2 ct2), sl2⟩) (c2 : PySem.W.codeIn K cd2 "shown" = true) (k2 : PySem.W.keepIn K (.ref f2) = true)
    {f3 : Addr} {od3 an3 : Option Addr} {sl3 : Array (Option Value)} {oc3 kV3 dc3 pm3 cd3 ct3 : Value} (a3 : PySem.W.nsIn K mainGlobals "number_of" = some (some (.ref f3)))
    (l3 : K.lookup f3 = some ⟨oc3, od3, .func (PySem.W.fnOf "number_of" "number_of" (defArgs s_number_of) (defBody s_number_of) (defScope s_number_of) .none kV3 dc3 pm3 an3 cd3 ct3), sl3⟩) (c3 : PySem.W.codeIn K cd3 "number_of" = true) (k3 : PySem.W.keepIn K (.ref f3) = true)
    {f4 : Addr} {od4 an4 : Option Addr} {sl4 : Array (Option Value)} {oc4 kV4 dc4 pm4 cd4 ct4 : Value} (a4 : PySem.W.nsIn K mainGlobals "point_of" = some (some (.ref f4)))
    (l4 : K.lookup f4 = some ⟨oc4, od4, .func (PySem.W.fnOf "point_of" "point_of" (defArgs s_point_of) (defBody s_point_of) (defScope s_point_of) .none kV4 dc4 pm4 an4 cd4 ct4), sl4⟩) (c4 : PySem.W.codeIn K cd4 "point_of" = true) (k4 : PySem.W.keepIn K (.ref f4) = true)
    {f5 : Addr} {od5 an5 : Option Addr} {sl5 : Array (Option Value)} {oc5 kV5 dc5 pm5 cd5 ct5 : Value} (a5 : PySem.W.nsIn K mainGlobals "read" = some (some (.ref f5)))
    (l5 : K.lookup f5 = some ⟨oc5, od5, .func (PySem.W.fnOf "read" "read" (defArgs s_read) (defBody s_read) (defScope s_read) .none kV5 dc5 pm5 an5 cd5 ct5), sl5⟩) (c5 : PySem.W.codeIn K cd5 "read" = true) (k5 : PySem.W.keepIn K (.ref f5) = true)
    {f6 : Addr} {od6 an6 : Option Addr} {sl6 : Array (Option Value)} {oc6 kV6 dc6 pm6 cd6 ct6 : Value} (a6 : PySem.W.nsIn K mainGlobals "_law_cell_at" = some (some (.ref f6)))
    (l6 : K.lookup f6 = some ⟨oc6, od6, .func (PySem.W.fnOf "_law_cell_at" "_law_cell_at" (defArgs s__law_cell_at) (defBody s__law_cell_at) (defScope s__law_cell_at) .none kV6 dc6 pm6 an6 cd6 ct6), sl6⟩) (c6 : PySem.W.codeIn K cd6 "_law_cell_at" = true) (k6 : PySem.W.keepIn K (.ref f6) = true)
    {f7 : Addr} {od7 an7 : Option Addr} {sl7 : Array (Option Value)} {oc7 kV7 dc7 pm7 cd7 ct7 : Value} (a7 : PySem.W.nsIn K mainGlobals "_law_whole" = some (some (.ref f7)))
    (l7 : K.lookup f7 = some ⟨oc7, od7, .func (PySem.W.fnOf "_law_whole" "_law_whole" (defArgs s__law_whole) (defBody s__law_whole) (defScope s__law_whole) .none kV7 dc7 pm7 an7 cd7 ct7), sl7⟩) (c7 : PySem.W.codeIn K cd7 "_law_whole" = true) (k7 : PySem.W.keepIn K (.ref f7) = true)
    {f8 : Addr} {od8 an8 : Option Addr} {sl8 : Array (Option Value)} {oc8 kV8 dc8 pm8 cd8 ct8 : Value} (a8 : PySem.W.nsIn K mainGlobals "_law_point_by" = some (some (.ref f8)))
    (l8 : K.lookup f8 = some ⟨oc8, od8, .func (PySem.W.fnOf "_law_point_by" "_law_point_by" (defArgs s__law_point_by) (defBody s__law_point_by) (defScope s__law_point_by) .none kV8 dc8 pm8 an8 cd8 ct8), sl8⟩) (c8 : PySem.W.codeIn K cd8 "_law_point_by" = true) (k8 : PySem.W.keepIn K (.ref f8) = true)
    {f9 : Addr} {od9 an9 : Option Addr} {sl9 : Array (Option Value)} {oc9 kV9 dc9 pm9 cd9 ct9 : Value} (a9 : PySem.W.nsIn K mainGlobals "_law_points_by" = some (some (.ref f9)))
    (l9 : K.lookup f9 = some ⟨oc9, od9, .func (PySem.W.fnOf "_law_points_by" "_law_points_by" (defArgs s__law_points_by) (defBody s__law_points_by) (defScope s__law_points_by) .none kV9 dc9 pm9 an9 cd9 ct9), sl9⟩) (c9 : PySem.W.codeIn K cd9 "_law_points_by" = true) (k9 : PySem.W.keepIn K (.ref f9) = true)
    {f10 : Addr} {od10 an10 : Option Addr} {sl10 : Array (Option Value)} {oc10 kV10 dc10 pm10 cd10 ct10 : Value} (a10 : PySem.W.nsIn K mainGlobals "_law_set" = some (some (.ref f10)))
    (l10 : K.lookup f10 = some ⟨oc10, od10, .func (PySem.W.fnOf "_law_set" "_law_set" (defArgs s__law_set) (defBody s__law_set) (defScope s__law_set) .none kV10 dc10 pm10 an10 cd10 ct10), sl10⟩) (c10 : PySem.W.codeIn K cd10 "_law_set" = true) (k10 : PySem.W.keepIn K (.ref f10) = true)
    {f11 : Addr} {od11 an11 : Option Addr} {sl11 : Array (Option Value)} {oc11 kV11 dc11 pm11 cd11 ct11 : Value} (a11 : PySem.W.nsIn K mainGlobals "_law_is_tuple" = some (some (.ref f11)))
    (l11 : K.lookup f11 = some ⟨oc11, od11, .func (PySem.W.fnOf "_law_is_tuple" "_law_is_tuple" (defArgs s__law_is_tuple) (defBody s__law_is_tuple) (defScope s__law_is_tuple) .none kV11 dc11 pm11 an11 cd11 ct11), sl11⟩) (c11 : PySem.W.codeIn K cd11 "_law_is_tuple" = true) (k11 : PySem.W.keepIn K (.ref f11) = true)
    {f12 : Addr} {od12 an12 : Option Addr} {sl12 : Array (Option Value)} {oc12 kV12 dc12 pm12 cd12 ct12 : Value} (a12 : PySem.W.nsIn K mainGlobals "_law_text" = some (some (.ref f12)))
    (l12 : K.lookup f12 = some ⟨oc12, od12, .func (PySem.W.fnOf "_law_text" "_law_text" (defArgs s__law_text) (defBody s__law_text) (defScope s__law_text) .none kV12 dc12 pm12 an12 cd12 ct12), sl12⟩) (c12 : PySem.W.codeIn K cd12 "_law_text" = true) (k12 : PySem.W.keepIn K (.ref f12) = true)
    {f13 : Addr} {od13 an13 : Option Addr} {sl13 : Array (Option Value)} {oc13 kV13 dc13 pm13 cd13 ct13 : Value} (a13 : PySem.W.nsIn K mainGlobals "_law_is_points" = some (some (.ref f13)))
    (l13 : K.lookup f13 = some ⟨oc13, od13, .func (PySem.W.fnOf "_law_is_points" "_law_is_points" (defArgs s__law_is_points) (defBody s__law_is_points) (defScope s__law_is_points) .none kV13 dc13 pm13 an13 cd13 ct13), sl13⟩) (c13 : PySem.W.codeIn K cd13 "_law_is_points" = true) (k13 : PySem.W.keepIn K (.ref f13) = true)
    {f14 : Addr} {od14 an14 : Option Addr} {sl14 : Array (Option Value)} {oc14 kV14 dc14 pm14 cd14 ct14 : Value} (a14 : PySem.W.nsIn K mainGlobals "law" = some (some (.ref f14)))
    (l14 : K.lookup f14 = some ⟨oc14, od14, .func (PySem.W.fnOf "law" "law" (defArgs s_law) (defBody s_law) (defScope s_law) .none kV14 dc14 pm14 an14 cd14 ct14), sl14⟩) (c14 : PySem.W.codeIn K cd14 "law" = true) (k14 : PySem.W.keepIn K (.ref f14) = true)
    (zlen : PySem.W.nsIn K mainGlobals "len" = some none)
    (zabs : PySem.W.nsIn K mainGlobals "abs" = some none)
    (zrange : PySem.W.nsIn K mainGlobals "range" = some none)
    (zisinstance : PySem.W.nsIn K mainGlobals "isinstance" = some none)
    (zsorted : PySem.W.nsIn K mainGlobals "sorted" = some none)
    (zlist : PySem.W.nsIn K mainGlobals "list" = some none)
    (zset : PySem.W.nsIn K mainGlobals "set" = some none)
    (zint : PySem.W.nsIn K mainGlobals "int" = some none)
    (zstr : PySem.W.nsIn K mainGlobals "str" = some none)
    (zmax : PySem.W.nsIn K mainGlobals "max" = some none)
    (ztuple : PySem.W.nsIn K mainGlobals "tuple" = some none)
    (zbool : PySem.W.nsIn K mainGlobals "bool" = some none)
    {tm : Tok} (gmost : PySem.W.nsIn K mainGlobals "MOST" = some (some (.int 20 tm)))
    {tg : Tok} (gfig : PySem.W.nsIn K mainGlobals "FIGURES" = some (some (.str "0123456789" tg)))
    {tl : Tok} (glong : PySem.W.nsIn K mainGlobals "LONGEST" = some (some (.int 7 tl))) :
    ∃ fd : FuncData, (∀ (s : Shared) (v : Value), BindsTo s fd ⟨[v], []⟩ [("script", v)]) ∧ ∀ base : Heap, K.In base → base.Ns mainGlobals mg → FnOk l.prog w K mg base CX0 5 fa fd ["script"] (spLaw K) := by
  have e := hfa.symm.trans (PySem.W.mg_of X G a14)
  cases e
  let D_see_points : Df K mg "see_points" s_see_points ["points"] := ⟨_, _, fun_mk (st := s_see_points) l1 c1 k1, PySem.W.mg_of X G a1, (fun_mk (st := s_see_points) l1 c1 k1).binds (ps := ["points"]) fun _ _ _ _ _ _ us hl => match us, hl with | [_], _ => rfl⟩
  let D_shown : Df K mg "shown" s_shown ["points"] := ⟨_, _, fun_mk (st := s_shown) l2 c2 k2, PySem.W.mg_of X G a2, (fun_mk (st := s_shown) l2 c2 k2).binds (ps := ["points"]) fun _ _ _ _ _ _ us hl => match us, hl with | [_], _ => rfl⟩
  let D_number_of : Df K mg "number_of" s_number_of ["word"] := ⟨_, _, fun_mk (st := s_number_of) l3 c3 k3, PySem.W.mg_of X G a3, (fun_mk (st := s_number_of) l3 c3 k3).binds (ps := ["word"]) fun _ _ _ _ _ _ us hl => match us, hl with | [_], _ => rfl⟩
  let D_point_of : Df K mg "point_of" s_point_of ["word"] := ⟨_, _, fun_mk (st := s_point_of) l4 c4 k4, PySem.W.mg_of X G a4, (fun_mk (st := s_point_of) l4 c4 k4).binds (ps := ["word"]) fun _ _ _ _ _ _ us hl => match us, hl with | [_], _ => rfl⟩
  let D_read : Df K mg "read" s_read ["text"] := ⟨_, _, fun_mk (st := s_read) l5 c5 k5, PySem.W.mg_of X G a5, (fun_mk (st := s_read) l5 c5 k5).binds (ps := ["text"]) fun _ _ _ _ _ _ us hl => match us, hl with | [_], _ => rfl⟩
  let D__law_cell_at : Df K mg "_law_cell_at" s__law_cell_at ["script", "k"] := ⟨_, _, fun_mk (st := s__law_cell_at) l6 c6 k6, PySem.W.mg_of X G a6, (fun_mk (st := s__law_cell_at) l6 c6 k6).binds (ps := ["script", "k"]) fun _ _ _ _ _ _ us hl => match us, hl with | [_, _], _ => rfl⟩
  let D__law_whole : Df K mg "_law_whole" s__law_whole ["found"] := ⟨_, _, fun_mk (st := s__law_whole) l7 c7 k7, PySem.W.mg_of X G a7, (fun_mk (st := s__law_whole) l7 c7 k7).binds (ps := ["found"]) fun _ _ _ _ _ _ us hl => match us, hl with | [_], _ => rfl⟩
  let D__law_point_by : Df K mg "_law_point_by" s__law_point_by ["one", "two", "way"] := ⟨_, _, fun_mk (st := s__law_point_by) l8 c8 k8, PySem.W.mg_of X G a8, (fun_mk (st := s__law_point_by) l8 c8 k8).binds (ps := ["one", "two", "way"]) fun _ _ _ _ _ _ us hl => match us, hl with | [_, _, _], _ => rfl⟩
  let D__law_points_by : Df K mg "_law_points_by" s__law_points_by ["script", "start", "count", "way"] := ⟨_, _, fun_mk (st := s__law_points_by) l9 c9 k9, PySem.W.mg_of X G a9, (fun_mk (st := s__law_points_by) l9 c9 k9).binds (ps := ["script", "start", "count", "way"]) fun _ _ _ _ _ _ us hl => match us, hl with | [_, _, _, _], _ => rfl⟩
  let D__law_set : Df K mg "_law_set" s__law_set ["script"] := ⟨_, _, fun_mk (st := s__law_set) l10 c10 k10, PySem.W.mg_of X G a10, (fun_mk (st := s__law_set) l10 c10 k10).binds (ps := ["script"]) fun _ _ _ _ _ _ us hl => match us, hl with | [_], _ => rfl⟩
  let D__law_is_tuple : Df K mg "_law_is_tuple" s__law_is_tuple ["found", "due"] := ⟨_, _, fun_mk (st := s__law_is_tuple) l11 c11 k11, PySem.W.mg_of X G a11, (fun_mk (st := s__law_is_tuple) l11 c11 k11).binds (ps := ["found", "due"]) fun _ _ _ _ _ _ us hl => match us, hl with | [_, _], _ => rfl⟩
  let D__law_text : Df K mg "_law_text" s__law_text ["points"] := ⟨_, _, fun_mk (st := s__law_text) l12 c12 k12, PySem.W.mg_of X G a12, (fun_mk (st := s__law_text) l12 c12 k12).binds (ps := ["points"]) fun _ _ _ _ _ _ us hl => match us, hl with | [_], _ => rfl⟩
  let D__law_is_points : Df K mg "_law_is_points" s__law_is_points ["found", "due"] := ⟨_, _, fun_mk (st := s__law_is_points) l13 c13 k13, PySem.W.mg_of X G a13, (fun_mk (st := s__law_is_points) l13 c13 k13).binds (ps := ["found", "due"]) fun _ _ _ _ _ _ us hl => match us, hl with | [_, _], _ => rfl⟩
  let D_law : Df K mg "law" s_law ["script"] := ⟨_, _, fun_mk (st := s_law) l14 c14 k14, PySem.W.mg_of X G a14, (fun_mk (st := s_law) l14 c14 k14).binds (ps := ["script"]) fun _ _ _ _ _ _ us hl => match us, hl with | [_], _ => rfl⟩
  have B : Bl mg := ⟨PySem.W.mg_none_of X G zlen, PySem.W.mg_none_of X G zabs, PySem.W.mg_none_of X G zrange, PySem.W.mg_none_of X G zisinstance, PySem.W.mg_none_of X G zsorted, PySem.W.mg_none_of X G zlist, PySem.W.mg_none_of X G zset, PySem.W.mg_none_of X G zint, PySem.W.mg_none_of X G zstr, PySem.W.mg_none_of X G zmax, PySem.W.mg_none_of X G ztuple, PySem.W.mg_none_of X G zbool⟩
  have Gg : Gc mg := ⟨gfar, ⟨_, PySem.W.mg_of X G gmost⟩⟩
  have Gt : Gt mg := ⟨⟨_, PySem.W.mg_of X G gfig⟩, ⟨_, PySem.W.mg_of X G glong⟩⟩
  refine ⟨D_law.fd, fun s v => .of_eq rfl, fun base _ _ => ?_⟩
  let C_see_points := D_see_points.fn (P := l.prog) (w := w) (base := base) (ok_see_points D_see_points B Gg)
  let C_shown := D_shown.fn (P := l.prog) (w := w) (base := base) (ok_shown D_shown B C_see_points)
  let C_number_of := D_number_of.fn (P := l.prog) (w := w) (base := base) (ok_number_of D_number_of B Gt)
  let C_point_of := D_point_of.fn (P := l.prog) (w := w) (base := base) (ok_point_of D_point_of B C_number_of)
  let C_read := D_read.fn (P := l.prog) (w := w) (base := base) (ok_read D_read B C_see_points C_point_of)
  let C__law_cell_at := D__law_cell_at.fn (P := l.prog) (w := w) (base := base) (ok__law_cell_at D__law_cell_at B)
  let C__law_whole := D__law_whole.fn (P := l.prog) (w := w) (base := base) (ok__law_whole D__law_whole B)
  let C__law_point_by := D__law_point_by.fn (P := l.prog) (w := w) (base := base) (ok__law_point_by D__law_point_by)
  let C__law_points_by := D__law_points_by.fn (P := l.prog) (w := w) (base := base) (ok__law_points_by D__law_points_by B C__law_cell_at C__law_point_by)
  let C__law_set := D__law_set.fn (P := l.prog) (w := w) (base := base) (ok__law_set D__law_set C__law_cell_at C__law_points_by)
  let C__law_is_tuple := D__law_is_tuple.fn (P := l.prog) (w := w) (base := base) (ok__law_is_tuple D__law_is_tuple B C__law_whole)
  let C__law_text := D__law_text.fn (P := l.prog) (w := w) (base := base) (ok__law_text D__law_text B)
  let C__law_is_points := D__law_is_points.fn (P := l.prog) (w := w) (base := base) (ok__law_is_points D__law_is_points B C__law_is_tuple)
  exact ok_law D_law B C__law_set C_shown C__law_text C_read C__law_is_points
end Tw
open PySem PySem.W PyProof.Rows in
set_option maxRecDepth 100000 in
set_option maxHeartbeats 0 in
theorem PySem.Challenge.cw_twoline_k11_points_written_holds : PySem.Challenge.rw_twoline_k11_points_written.Holds := by
  w_on; o_law; k_head; (case hw => w_witness2)
  k_fill
  refine Tw.walkX (l := PySem.Challenge.rw_twoline_k11_points_written) (k := 5) (cx := L2.CX0) (pr := Tw.spLaw) rfl rfl ⟨rfl, by decide, by decide⟩ (fun w h Y => PySem.W.kIn_of Y) ?F (fun K H a ns hl hS => ⟨a, ns, rfl, hS, hl, fun _ => rfl⟩) fun _ _ _ _ z => z
  case F =>
    intro w mg fa h KX G hx hmg
    refine' Tw.all_mk KX G hmg (Tw.far_of hx) ?a1 ?l1 ?c1 ?k1 ?a2 ?l2 ?c2 ?k2 ?a3 ?l3 ?c3 ?k3 ?a4 ?l4 ?c4 ?k4 ?a5 ?l5 ?c5 ?k5 ?a6 ?l6 ?c6 ?k6 ?a7 ?l7 ?c7 ?k7 ?a8 ?l8 ?c8 ?k8 ?a9 ?l9 ?c9 ?k9 ?a10 ?l10 ?c10 ?k10 ?a11 ?l11 ?c11 ?k11 ?a12 ?l12 ?c12 ?k12 ?a13 ?l13 ?c13 ?k13 ?a14 ?l14 ?c14 ?k14 ?zlen ?zabs ?zrange ?zisinstance ?zsorted ?zlist ?zset ?zint ?zstr ?zmax ?ztuple ?zbool ?gmost ?gfig ?glong
    (case a1 => k_is)
    (case l1 => k_is)
    (case c1 => k_is)
    (case k1 => k_is)
    (case a2 => k_is)
    (case l2 => k_is)
    (case c2 => k_is)
    (case k2 => k_is)
    (case a3 => k_is)
    (case l3 => k_is)
    (case c3 => k_is)
    (case k3 => k_is)
    (case a4 => k_is)
    (case l4 => k_is)
    (case c4 => k_is)
    (case k4 => k_is)
    (case a5 => k_is)
    (case l5 => k_is)
    (case c5 => k_is)
    (case k5 => k_is)
    (case a6 => k_is)
    (case l6 => k_is)
    (case c6 => k_is)
    (case k6 => k_is)
    (case a7 => k_is)
    (case l7 => k_is)
    (case c7 => k_is)
    (case k7 => k_is)
    (case a8 => k_is)
    (case l8 => k_is)
    (case c8 => k_is)
    (case k8 => k_is)
    (case a9 => k_is)
    (case l9 => k_is)
    (case c9 => k_is)
    (case k9 => k_is)
    (case a10 => k_is)
    (case l10 => k_is)
    (case c10 => k_is)
    (case k10 => k_is)
    (case a11 => k_is)
    (case l11 => k_is)
    (case c11 => k_is)
    (case k11 => k_is)
    (case a12 => k_is)
    (case l12 => k_is)
    (case c12 => k_is)
    (case k12 => k_is)
    (case a13 => k_is)
    (case l13 => k_is)
    (case c13 => k_is)
    (case k13 => k_is)
    (case a14 => k_is)
    (case l14 => k_is)
    (case c14 => k_is)
    (case k14 => k_is)
    (case zlen => k_is)
    (case zabs => k_is)
    (case zrange => k_is)
    (case zisinstance => k_is)
    (case zsorted => k_is)
    (case zlist => k_is)
    (case zset => k_is)
    (case zint => k_is)
    (case zstr => k_is)
    (case zmax => k_is)
    (case ztuple => k_is)
    (case zbool => k_is)
    (case gmost => k_is)
    (case gfig => k_is)
    (case glong => k_is)
#print axioms PySem.Challenge.cw_twoline_k11_points_written_holds
