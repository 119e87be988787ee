import PyProof.Rows.All
import Wide.All
import OpenK.AllK
import Wide.FinOn
import HandS.ForMost
import HandS.Wide
import HandS.IsInst
import HandS.Deep
import HandS.TupSets
import HandS.Conv
import HandS.TupLen
import HandS.Dict
import KE.SortData
import HandS.Walk
import HandS.More
import HandS.Comp
import HandS.SuiteRaise
import HandS.Exc
import HandS.ExcOwn
import HandS.WordsExc
import HandS.ExcIs
import HandS.HotCalls
import PySem.Challenge.RW_twoline_k12_points_read_or_refused
set_option Elab.async false
set_option linter.all false
set_option maxRecDepth 100000
set_option maxHeartbeats 4000000
namespace Tw

abbrev P2 := Int × Int
abbrev L3 := Int × Int × Int

/-! ### gcd by while -/
theorem gcd_turn {a b : Int} (ha : 0 ≤ a) (hb : 0 < b) : Int.gcd b (a % b) = Int.gcd a b ∧ 0 ≤ a % b ∧ a % b < b := by
  refine ⟨?_, Int.emod_nonneg _ (by omega), Int.emod_lt_of_pos _ hb⟩
  have h : a % b = a - b * (a / b) := by have := Int.mul_ediv_add_emod a b; omega
  rw [h, Int.gcd_sub_mul_left_right, Int.gcd_comm]

def cm (a b : Int) : Int := (Int.gcd a b : Nat)
theorem cm_nonneg (a b : Int) : 0 ≤ cm a b := Int.natCast_nonneg _
theorem cm_pos {a b : Int} (h : a ≠ 0 ∨ b ≠ 0) : 0 < cm a b := by
  have := Int.gcd_pos_iff.mpr h
  unfold cm; omega
theorem cm_abs (a b : Int) : cm (if a < 0 then -a else a) (if b < 0 then -b else b) = cm a b := by
  unfold cm
  split <;> split <;> simp [Int.gcd_neg, Int.neg_gcd]
theorem cm_dvd_left (a b : Int) : cm a b ∣ a := Int.gcd_dvd_left a b
theorem cm_dvd_right (a b : Int) : cm a b ∣ b := Int.gcd_dvd_right a b
theorem cm_mul (k a b : Int) : cm (k * a) (k * b) = k.natAbs * cm a b := by
  unfold cm
  rw [Int.gcd_mul_left]
  simp
theorem cm_natAbs (a b : Int) : (cm a b).natAbs = Int.gcd a b := by
  unfold cm; simp
theorem cm_le_left {a : Int} (b : Int) (h : a ≠ 0) : (cm a b).natAbs ≤ a.natAbs := by
  rw [cm_natAbs]; exact Int.gcd_le_natAbs_left b h
theorem cm_le_right (a : Int) {b : Int} (h : b ≠ 0) : (cm a b).natAbs ≤ b.natAbs := by
  rw [cm_natAbs]; exact Int.gcd_le_natAbs_right a h

/-! ### exact division -/
theorem fdiv_mul {d x : Int} (h : d ≠ 0) : (d * x).fdiv d = x := Int.mul_fdiv_cancel_left x h
theorem fdiv_pos {a d : Int} (h : 0 ≤ d) : a.fdiv d = a / d := Int.fdiv_eq_ediv_of_nonneg a h

/-! ### a line in lowest numbers -/
/-- the first nonzero one of the two is below nought -/
def Low (a b : Int) : Prop := a < 0 ∨ (a = 0 ∧ b < 0)
instance (a b : Int) : Decidable (Low a b) := by unfold Low; infer_instance
def dv (a b c : Int) : Int := if Low a b then 0 - cm (cm a b) c else cm (cm a b) c
def norm3 (a b c : Int) : L3 := (a.fdiv (dv a b c), b.fdiv (dv a b c), c.fdiv (dv a b c))

theorem cm3_pos {a b : Int} (c : Int) (h : a ≠ 0 ∨ b ≠ 0) : 0 < cm (cm a b) c := cm_pos (.inl (by have := cm_pos h; omega))
theorem dv_ne {a b : Int} (c : Int) (h : a ≠ 0 ∨ b ≠ 0) : dv a b c ≠ 0 := by
  have := cm3_pos c h
  unfold dv; split <;> omega
theorem cm3_dvd (a b c : Int) : cm (cm a b) c ∣ a ∧ cm (cm a b) c ∣ b ∧ cm (cm a b) c ∣ c :=
  ⟨Int.dvd_trans (cm_dvd_left _ _) (cm_dvd_left _ _), Int.dvd_trans (cm_dvd_left _ _) (cm_dvd_right _ _), cm_dvd_right _ _⟩
theorem dv_dvd (a b c : Int) : dv a b c ∣ a ∧ dv a b c ∣ b ∧ dv a b c ∣ c := by
  obtain ⟨h1, h2, h3⟩ := cm3_dvd a b c
  unfold dv; split
  · rw [Int.zero_sub]; exact ⟨Int.neg_dvd.mpr h1, Int.neg_dvd.mpr h2, Int.neg_dvd.mpr h3⟩
  · exact ⟨h1, h2, h3⟩
theorem norm3_spec {a b : Int} (c : Int) (h : a ≠ 0 ∨ b ≠ 0) :
    a = dv a b c * (norm3 a b c).1 ∧ b = dv a b c * (norm3 a b c).2.1 ∧ c = dv a b c * (norm3 a b c).2.2 := by
  obtain ⟨⟨x, hx⟩, ⟨y, hy⟩, ⟨z, hz⟩⟩ := dv_dvd a b c
  have hd := dv_ne c h
  have e1 : a.fdiv (dv a b c) = x := (congrArg (fun t => Int.fdiv t (dv a b c)) hx).trans (fdiv_mul hd)
  have e2 : b.fdiv (dv a b c) = y := (congrArg (fun t => Int.fdiv t (dv a b c)) hy).trans (fdiv_mul hd)
  have e3 : c.fdiv (dv a b c) = z := (congrArg (fun t => Int.fdiv t (dv a b c)) hz).trans (fdiv_mul hd)
  refine ⟨?_, ?_, ?_⟩
  · show a = dv a b c * a.fdiv (dv a b c); rw [e1]; exact hx
  · show b = dv a b c * b.fdiv (dv a b c); rw [e2]; exact hy
  · show c = dv a b c * c.fdiv (dv a b c); rw [e3]; exact hz
theorem norm3_eq {a b c d x y z : Int} (hd : dv a b c = d) (h0 : d ≠ 0) (hx : a = d * x) (hy : b = d * y) (hz : c = d * z) : norm3 a b c = (x, y, z) := by
  unfold norm3
  rw [hd]
  have e1 : a.fdiv d = x := (congrArg (fun t => Int.fdiv t d) hx).trans (fdiv_mul h0)
  have e2 : b.fdiv d = y := (congrArg (fun t => Int.fdiv t d) hy).trans (fdiv_mul h0)
  have e3 : c.fdiv d = z := (congrArg (fun t => Int.fdiv t d) hz).trans (fdiv_mul h0)
  rw [e1, e2, e3]

theorem mul_low {k a b : Int} (hk : 0 < k) : Low (k * a) (k * b) ↔ Low a b := by
  unfold Low
  have h1 : k * a < 0 ↔ a < 0 := by
    constructor
    · intro h
      rcases Int.lt_or_le a 0 with q | q
      · exact q
      · have := Int.mul_nonneg (Int.le_of_lt hk) q; omega
    · intro h; exact Int.mul_neg_of_pos_of_neg hk h
  have h2 : k * a = 0 ↔ a = 0 := by
    constructor
    · intro h
      rcases Int.mul_eq_zero.mp h with q | q
      · omega
      · exact q
    · rintro rfl; simp
  have h3 : k * b < 0 ↔ b < 0 := by
    constructor
    · intro h
      rcases Int.lt_or_le b 0 with q | q
      · exact q
      · have := Int.mul_nonneg (Int.le_of_lt hk) q; omega
    · intro h; exact Int.mul_neg_of_pos_of_neg hk h
  rw [h1, h2, h3]
theorem neg_low {a b : Int} (h : a ≠ 0 ∨ b ≠ 0) : Low (-a) (-b) ↔ ¬ Low a b := by
  unfold Low; omega
theorem dv_mul_pos {k a b c : Int} (hk : 0 < k) : dv (k * a) (k * b) (k * c) = k * dv a b c := by
  have hn : ((k.natAbs : Nat) : Int) = k := by omega
  have e : cm (cm (k * a) (k * b)) (k * c) = k * cm (cm a b) c := by
    rw [cm_mul, hn, cm_mul, hn]
  unfold dv
  rw [e]
  by_cases h : Low a b
  · rw [if_pos h, if_pos ((mul_low hk).mpr h), Int.mul_sub, Int.mul_zero]
  · rw [if_neg h, if_neg (fun q => h ((mul_low hk).mp q))]
theorem dv_neg {a b : Int} (c : Int) (h : a ≠ 0 ∨ b ≠ 0) : dv (-a) (-b) (-c) = - dv a b c := by
  have e : cm (cm (-a) (-b)) (-c) = cm (cm a b) c := by
    unfold cm; simp [Int.gcd_neg, Int.neg_gcd]
  unfold dv
  rw [e]
  by_cases q : Low a b
  · rw [if_pos q, if_neg (fun z => (neg_low h).mp z q)]; omega
  · rw [if_neg q, if_pos ((neg_low h).mpr q)]; omega
theorem norm3_neg {a b : Int} (c : Int) (h : a ≠ 0 ∨ b ≠ 0) : norm3 (-a) (-b) (-c) = norm3 a b c := by
  obtain ⟨h1, h2, h3⟩ := norm3_spec c h
  have hd := dv_ne c h
  refine norm3_eq (x := (norm3 a b c).1) (y := (norm3 a b c).2.1) (z := (norm3 a b c).2.2) (dv_neg c h) (by omega) ?_ ?_ ?_
  · rw [Int.neg_mul, ← h1]
  · rw [Int.neg_mul, ← h2]
  · rw [Int.neg_mul, ← h3]
theorem norm3_pos {k a b : Int} (c : Int) (hk : 0 < k) (h : a ≠ 0 ∨ b ≠ 0) : norm3 (k * a) (k * b) (k * c) = norm3 a b c := by
  obtain ⟨h1, h2, h3⟩ := norm3_spec c h
  have hd := dv_ne c h
  refine norm3_eq (x := (norm3 a b c).1) (y := (norm3 a b c).2.1) (z := (norm3 a b c).2.2) (dv_mul_pos hk) (fun z => ?_) ?_ ?_ ?_
  · rcases Int.mul_eq_zero.mp z with q | q
    · omega
    · exact hd q
  · rw [Int.mul_assoc, ← h1]
  · rw [Int.mul_assoc, ← h2]
  · rw [Int.mul_assoc, ← h3]
theorem norm3_scale {k a b : Int} (c : Int) (hk : k ≠ 0) (h : a ≠ 0 ∨ b ≠ 0) : norm3 (k * a) (k * b) (k * c) = norm3 a b c := by
  rcases Int.lt_or_le 0 k with q | q
  · exact norm3_pos c q h
  · have q' : 0 < -k := by omega
    have h' : -a ≠ 0 ∨ -b ≠ 0 := by omega
    have e := norm3_pos (k := -k) (-c) q' h'
    rw [Int.neg_mul_neg, Int.neg_mul_neg, Int.neg_mul_neg] at e
    rw [e, norm3_neg c h]
/-- proportional triples -/
theorem norm3_prop {a b c a' b' c' k k' : Int} (h : a ≠ 0 ∨ b ≠ 0) (h' : a' ≠ 0 ∨ b' ≠ 0) (hk : k ≠ 0) (hk' : k' ≠ 0) (e1 : k * a' = k' * a) (e2 : k * b' = k' * b) (e3 : k * c' = k' * c) : norm3 a' b' c' = norm3 a b c := by
  rw [← norm3_scale c' hk h', e1, e2, e3, norm3_scale c hk' h]
/-- its first nonzero number is above nought; nothing above 1 divides all three -/
theorem norm3_ne {a b : Int} (c : Int) (h : a ≠ 0 ∨ b ≠ 0) : (norm3 a b c).1 ≠ 0 ∨ (norm3 a b c).2.1 ≠ 0 := by
  obtain ⟨h1, h2, h3⟩ := norm3_spec c h
  rcases h with h | h
  · left; intro z; rw [z] at h1; simp at h1; exact h h1
  · right; intro z; rw [z] at h2; simp at h2; exact h h2

/-! ### lines through points -/
def On (l : L3) (p : P2) : Prop := l.1 * p.1 + l.2.1 * p.2 = l.2.2
instance (l : L3) (p : P2) : Decidable (On l p) := by unfold On; infer_instance
def lineOf (p q : P2) : L3 := norm3 (q.2 - p.2) (p.1 - q.1) ((q.2 - p.2) * p.1 + (p.1 - q.1) * p.2)
theorem diff_ne {p q : P2} (h : p ≠ q) : q.2 - p.2 ≠ 0 ∨ p.1 - q.1 ≠ 0 := by
  obtain ⟨a, b⟩ := p
  obtain ⟨c, d⟩ := q
  by_cases h1 : a = c
  · left; intro z
    have : b = d := by dsimp only at z; omega
    exact h (by rw [h1, this])
  · right; dsimp only; omega
theorem on_norm3 {a b : Int} (c : Int) (h : a ≠ 0 ∨ b ≠ 0) (p : P2) : On (norm3 a b c) p ↔ a * p.1 + b * p.2 = c := by
  obtain ⟨h1, h2, h3⟩ := norm3_spec c h
  have hd := dv_ne c h
  unfold On
  generalize norm3 a b c = t at h1 h2 h3 ⊢
  generalize dv a b c = d at h1 h2 h3 hd
  constructor
  · intro e
    rw [h1, h2, h3, ← e, Int.mul_add, Int.mul_assoc, Int.mul_assoc]
  · intro e
    rw [h1, h2, h3, Int.mul_assoc, Int.mul_assoc, ← Int.mul_add] at e
    exact Int.eq_of_mul_eq_mul_left hd e
theorem on_lineOf {p q : P2} (h : p ≠ q) (r : P2) : On (lineOf p q) r ↔ (q.2 - p.2) * r.1 + (p.1 - q.1) * r.2 = (q.2 - p.2) * p.1 + (p.1 - q.1) * p.2 := on_norm3 _ (diff_ne h) r
theorem on_left {p q : P2} (h : p ≠ q) : On (lineOf p q) p := (on_lineOf h p).mpr rfl
theorem on_right {p q : P2} (h : p ≠ q) : On (lineOf p q) q := by
  refine (on_lineOf h q).mpr ?_
  obtain ⟨a, b⟩ := p
  obtain ⟨c, d⟩ := q
  dsimp only
  grind
theorem lineOf_comm {p q : P2} (h : p ≠ q) : lineOf q p = lineOf p q := by
  have e1 : p.2 - q.2 = -(q.2 - p.2) := by omega
  have e2 : q.1 - p.1 = -(p.1 - q.1) := by omega
  have e3 := (on_lineOf h q).mp (on_right h)
  unfold lineOf
  rw [e1, e2, Int.neg_mul, Int.neg_mul, ← Int.neg_add, e3]
  exact norm3_neg _ (diff_ne h)
/-- two unlike points of one line: they tell it -/
theorem lineOf_unique {r s p q : P2} (hrs : r ≠ s) (hpq : p ≠ q) (hp : On (lineOf r s) p) (hq : On (lineOf r s) q) : lineOf p q = lineOf r s := by
  have hp' := (on_lineOf hrs p).mp hp
  have hq' := (on_lineOf hrs q).mp hq
  have na := diff_ne hrs
  have nb := diff_ne hpq
  unfold lineOf
  generalize hc : (s.2 - r.2) * r.1 + (r.1 - s.1) * r.2 = c at hp' hq' ⊢
  generalize s.2 - r.2 = a at na hp' hq' ⊢
  generalize r.1 - s.1 = b at na hp' hq' ⊢
  obtain ⟨px, py⟩ := p
  obtain ⟨qx, qy⟩ := q
  dsimp only at *
  -- a * (qx - px) + b * (qy - py) = 0
  have z : a * (px - qx) = b * (qy - py) := by
    rw [Int.mul_sub, Int.mul_sub]; omega
  by_cases h0 : a = 0
  · subst h0
    have hb : b ≠ 0 := by omega
    have z2 : b * (qy - py) = 0 := by rw [← z]; simp
    have z3 : qy - py = 0 := by
      rcases Int.mul_eq_zero.mp z2 with q | q
      · exact absurd q hb
      · exact q
    have nx : px - qx ≠ 0 := by omega
    refine norm3_prop (k := b) (k' := px - qx) na nb hb nx ?_ ?_ ?_
    · rw [z3]; simp
    · exact Int.mul_comm _ _
    · rw [z3, ← hp']; simp only [Int.zero_mul, Int.zero_add]; rw [← Int.mul_assoc, ← Int.mul_assoc, Int.mul_comm b]
  · have ny : qy - py ≠ 0 := by
      intro q
      rw [q, Int.mul_zero] at z
      rcases Int.mul_eq_zero.mp z with q2 | q2
      · exact h0 q2
      · omega
    refine norm3_prop (k := a) (k' := qy - py) na nb h0 ny ?_ ?_ ?_
    · exact Int.mul_comm _ _
    · rw [z, Int.mul_comm]
    · rw [← hp', Int.mul_add, Int.mul_add]
      have e1 : a * ((qy - py) * px) = (qy - py) * (a * px) := Int.mul_left_comm _ _ _
      have e2 : a * ((px - qx) * py) = (qy - py) * (b * py) := by
        rw [← Int.mul_assoc, z, Int.mul_comm b, Int.mul_assoc]
      rw [e1, e2]
/-- as the law tells it: the signs first -/
def lawLine (p q : P2) : L3 :=
  let a := q.2 - p.2
  let b := p.1 - q.1
  let a' := if Low a b then 0 - a else a
  let b' := if Low a b then 0 - b else b
  let c' := a' * p.1 + b' * p.2
  let w := cm (cm a' b') c'
  (a'.fdiv w, b'.fdiv w, c'.fdiv w)
theorem lawLine_eq {p q : P2} (h : p ≠ q) : lawLine p q = lineOf p q := by
  have na := diff_ne h
  unfold lawLine lineOf
  generalize q.2 - p.2 = a at na ⊢
  generalize p.1 - q.1 = b at na ⊢
  dsimp only
  by_cases q : Low a b
  · rw [if_pos q, if_pos q, Int.zero_sub, Int.zero_sub]
    have e : -a * p.1 + -b * p.2 = -(a * p.1 + b * p.2) := by rw [Int.neg_mul, Int.neg_mul, Int.neg_add]
    rw [e, ← norm3_neg _ na]
    unfold norm3 dv
    rw [if_neg (fun z => (neg_low na).mp z q)]
  · rw [if_neg q, if_neg q]
    unfold norm3 dv
    rw [if_neg q]

/-! ### fractions -/
def frac (t b : Int) : Int × Int := let d := if b < 0 then 0 - cm t b else cm t b; (t.fdiv d, b.fdiv d)
def low (t b : Int) : Int × Int := (t.fdiv (cm t b), b.fdiv (cm t b))
theorem frac_low {t b : Int} (h : 0 ≤ b) : frac t b = low t b := by
  unfold frac low
  dsimp only
  rw [if_neg (by omega)]
theorem frac_spec (t : Int) {b : Int} (h : b ≠ 0) : ∃ d, d ≠ 0 ∧ t = d * (frac t b).1 ∧ b = d * (frac t b).2 ∧ 0 < (frac t b).2 ∧ cm (frac t b).1 (frac t b).2 = 1 := by
  have hp : 0 < cm t b := cm_pos (.inr h)
  obtain ⟨d, hd, h0, ht, hb, hs⟩ : ∃ d, d = (if b < 0 then 0 - cm t b else cm t b) ∧ d ≠ 0 ∧ d ∣ t ∧ d ∣ b ∧ (0 < d ↔ 0 < b) := by
    refine ⟨_, rfl, ?_⟩
    by_cases q : b < 0
    · rw [if_pos q, Int.zero_sub]
      exact ⟨by omega, Int.neg_dvd.mpr (cm_dvd_left _ _), Int.neg_dvd.mpr (cm_dvd_right _ _), by omega⟩
    · rw [if_neg q]
      exact ⟨by omega, cm_dvd_left _ _, cm_dvd_right _ _, by omega⟩
  have hn : d.natAbs = Int.gcd t b := by
    rw [hd]; have := cm_natAbs t b
    split
    · rw [Int.zero_sub, Int.natAbs_neg]; exact this
    · exact this
  obtain ⟨x, hx⟩ := ht
  obtain ⟨y, hy⟩ := hb
  have ef : frac t b = (x, y) := by
    unfold frac
    dsimp only
    rw [← hd]
    have e1 : t.fdiv d = x := (congrArg (fun t => Int.fdiv t d) hx).trans (fdiv_mul h0)
    have e2 : b.fdiv d = y := (congrArg (fun t => Int.fdiv t d) hy).trans (fdiv_mul h0)
    rw [e1, e2]
  rw [ef]
  refine ⟨d, h0, hx, hy, ?_, ?_⟩
  · show 0 < y
    rcases Int.lt_or_le 0 y with q | q
    · exact q
    · exfalso
      rcases Int.lt_or_le 0 d with q2 | q2
      · have h1 := hs.mp q2
        have := Int.mul_nonneg (Int.le_of_lt q2) (show 0 ≤ -y by omega)
        rw [Int.mul_neg] at this
        omega
      · have h1 : ¬ 0 < b := fun z => by have := hs.mpr z; omega
        have := Int.mul_nonneg (show 0 ≤ -d by omega) (show 0 ≤ -y by omega)
        rw [Int.neg_mul_neg] at this
        omega
  · show cm x y = 1
    have e : cm t b = d.natAbs * cm x y := by
      have := cm_mul d x y
      rw [← hx, ← hy] at this
      exact this
    have e2 : ((d.natAbs : Nat) : Int) = cm t b := by rw [hn]; rfl
    rw [e2] at e
    have : cm t b * 1 = cm t b * cm x y := by rw [Int.mul_one]; exact e
    exact (Int.eq_of_mul_eq_mul_left (by omega) this).symm
end Tw
namespace Tw

/-! ### the nearest point of a line: Kelly's step -/
def much (l : L3) (p : P2) : Int := l.1 * p.1 + l.2.1 * p.2 - l.2.2
def nn (l : L3) : Int := l.1 * l.1 + l.2.1 * l.2.1
def tau (l : L3) (p q : P2) : Int := l.1 * (q.2 - p.2) - l.2.1 * (q.1 - p.1)
theorem on_much {l : L3} {p : P2} : On l p ↔ much l p = 0 := by unfold On much; omega
theorem sq_pos {a : Int} (h : a ≠ 0) : 0 < a * a := by
  rcases Int.lt_or_le a 0 with q | q
  · have := Int.mul_pos (show 0 < -a by omega) (show 0 < -a by omega)
    rwa [Int.neg_mul_neg] at this
  · exact Int.mul_pos (by omega) (by omega)
theorem sq_nonneg (a : Int) : 0 ≤ a * a := by
  by_cases h : a = 0
  · rw [h]; decide
  · exact Int.le_of_lt (sq_pos h)
theorem nn_pos {l : L3} (h : l.1 ≠ 0 ∨ l.2.1 ≠ 0) : 0 < nn l := by
  unfold nn
  have h1 := sq_nonneg l.1
  have h2 := sq_nonneg l.2.1
  rcases h with h | h
  · have := sq_pos h; omega
  · have := sq_pos h; omega
theorem id1 (a b u v s t : Int) : (a * a + b * b) * (u * t - v * s) = (a * u + b * v) * (a * t - b * s) - (a * s + b * t) * (a * v - b * u) := by grind
theorem id2 (a b u v : Int) : (a * a + b * b) * (u * u + v * v) = (a * u + b * v) * (a * u + b * v) + (a * v - b * u) * (a * v - b * u) := by grind
theorem id3 (a b u v s t : Int) : (a * s + b * t) * u = b * (u * t - v * s) + s * (a * u + b * v) := by grind
theorem id4 (a b u v s t : Int) : (a * s + b * t) * v = - (a * (u * t - v * s)) + t * (a * u + b * v) := by grind
theorem id5 {M u v a b c : Int} (h1 : M * u = b * c) (h2 : M * v = -(a * c)) : M * M * (u * u + v * v) = (a * a + b * b) * (c * c) := by
  have e : M * M * (u * u + v * v) = (M * u) * (M * u) + (M * v) * (M * v) := by grind
  rw [e, h1, h2]; grind
theorem id6 (M n w : Int) : M * M * n * (n * w) = (M * M * w) * (n * n) := by grind
theorem id7 (m c n : Int) : m * (c * c) * (n * n) = m * ((n * c) * (n * c)) := by grind
theorem id8 (D m n w : Int) : D * D * m * (n * w) = m * (D * D * (n * w)) := by grind
theorem id9 (D k : Int) : D * k * (D * k) = D * D * (k * k) := by grind
/-- all seen from p -/
theorem kelly_0 {a b a' b' u v s t D : Int} (hr : a * u + b * v = -D) (hq : a * s + b * t = -D) (hr' : a' * u + b' * v = 0) (hn : 0 < a * a + b * b) (hm : 0 < a' * a' + b' * b') (hD : D ≠ 0)
    (ht : ((a * v - b * u) - (a * t - b * s)) * ((a * v - b * u) - (a * t - b * s)) ≤ (a * v - b * u) * (a * v - b * u)) :
    (a' * s + b' * t) * (a' * s + b' * t) * (a * a + b * b) < D * D * (a' * a' + b' * b') := by
  have i1 := id1 a b u v s t
  have i2 := id2 a b u v
  have i3 := id3 a' b' u v s t
  have i4 := id4 a' b' u v s t
  rw [hr, hq] at i1
  rw [hr, Int.neg_mul_neg] at i2
  rw [hr', Int.mul_zero, Int.add_zero] at i3 i4
  have i5 := id5 i3 i4
  clear i3 i4 hr hq hr'
  generalize a' * s + b' * t = M at i5 ⊢
  generalize a' * a' + b' * b' = m at i5 hm ⊢
  generalize a * v - b * u = tr at i1 i2 ht
  generalize a * t - b * s = tq at i1 ht
  generalize u * t - v * s = cr at i1 i5
  generalize a * a + b * b = n at i1 i2 hn ⊢
  generalize u * u + v * v = w at i2 i5
  have i1' : n * cr = D * (tr - tq) := by
    rw [i1, Int.mul_sub, Int.neg_mul, Int.neg_mul]; omega
  clear i1
  have hDD := sq_pos hD
  have hN : 0 < n * w := by
    rw [i2]
    have := sq_nonneg tr
    omega
  have k1 : M * M * n * (n * w) = m * (D * D * ((tr - tq) * (tr - tq))) := by
    rw [id6, i5, id7, i1', id9]
  have k2 : D * D * m * (n * w) = m * (D * D * (D * D + tr * tr)) := by rw [id8, i2]
  have k3 : m * (D * D * ((tr - tq) * (tr - tq))) < m * (D * D * (D * D + tr * tr)) := by
    refine Int.mul_lt_mul_of_pos_left ?_ hm
    refine Int.mul_lt_mul_of_pos_left ?_ hDD
    omega
  rw [← k1, ← k2] at k3
  exact Int.lt_of_mul_lt_mul_right k3 (Int.le_of_lt hN)
theorem kelly_alg {a b c a' b' c' px py qx qy rx ry : Int} (hq : a * qx + b * qy = c) (hr : a * rx + b * ry = c) (hp' : a' * px + b' * py = c') (hr' : a' * rx + b' * ry = c')
    (hn : 0 < a * a + b * b) (hm : 0 < a' * a' + b' * b') (hD : a * px + b * py - c ≠ 0)
    (ht : ((a * (ry - py) - b * (rx - px)) - (a * (qy - py) - b * (qx - px))) * ((a * (ry - py) - b * (rx - px)) - (a * (qy - py) - b * (qx - px))) ≤ (a * (ry - py) - b * (rx - px)) * (a * (ry - py) - b * (rx - px))) :
    (a' * qx + b' * qy - c') * (a' * qx + b' * qy - c') * (a * a + b * b) < (a * px + b * py - c) * (a * px + b * py - c) * (a' * a' + b' * b') := by
  have e : a' * qx + b' * qy - c' = a' * (qx - px) + b' * (qy - py) := by rw [Int.mul_sub, Int.mul_sub]; omega
  rw [e]
  refine kelly_0 (u := rx - px) (v := ry - py) ?_ ?_ ?_ hn hm hD ht
  · rw [Int.mul_sub, Int.mul_sub]; omega
  · rw [Int.mul_sub, Int.mul_sub]; omega
  · rw [Int.mul_sub, Int.mul_sub]; omega

/-- p not on l; q and r on l, q no further from the foot than r, on its side: q is nearer to the line through r and p -/
theorem kelly {l m : L3} {p q r : P2} (hq : On l q) (hr : On l r) (hl : l.1 ≠ 0 ∨ l.2.1 ≠ 0) (hm : m.1 ≠ 0 ∨ m.2.1 ≠ 0) (hp : ¬ On l p) (mp : On m p) (mr : On m r)
    (ht : (tau l p r - tau l p q) * (tau l p r - tau l p q) ≤ tau l p r * tau l p r) : much m q * much m q * nn l < much l p * much l p * nn m :=
  kelly_alg hq hr mp mr (nn_pos hl) (nn_pos hm) (fun z => hp (by unfold On; omega)) ht

theorem tau_inj {l : L3} {p q r : P2} (hl : l.1 ≠ 0 ∨ l.2.1 ≠ 0) (hq : On l q) (hr : On l r) (h : tau l p q = tau l p r) : q = r := by
  obtain ⟨a, b, c⟩ := l
  obtain ⟨qx, qy⟩ := q
  obtain ⟨rx, ry⟩ := r
  unfold On at hq hr
  unfold tau at h
  dsimp only at *
  have hn : 0 < a * a + b * b := nn_pos (l := (a, b, c)) hl
  have k1 : a * (qx - rx) + b * (qy - ry) = 0 := by rw [Int.mul_sub, Int.mul_sub]; omega
  have k2 : a * (qy - ry) - b * (qx - rx) = 0 := by
    simp only [Int.mul_sub] at h ⊢; omega
  have h1 : (a * a + b * b) * (qx - rx) = 0 := by
    have : (a * a + b * b) * (qx - rx) = a * (a * (qx - rx) + b * (qy - ry)) - b * (a * (qy - ry) - b * (qx - rx)) := by generalize qx - rx = x; generalize qy - ry = y; grind
    rw [this, k1, k2]; simp
  have h2 : (a * a + b * b) * (qy - ry) = 0 := by
    have : (a * a + b * b) * (qy - ry) = b * (a * (qx - rx) + b * (qy - ry)) + a * (a * (qy - ry) - b * (qx - rx)) := by generalize qx - rx = x; generalize qy - ry = y; grind
    rw [this, k1, k2]; simp
  have z : ∀ x : Int, (a * a + b * b) * x = 0 → x = 0 := fun x hx => by
    rcases Int.mul_eq_zero.mp hx with q | q
    · omega
    · exact q
  have e1 := z _ h1
  have e2 := z _ h2
  have f1 : qx = rx := by omega
  have f2 : qy = ry := by omega
  rw [f1, f2]

/-- two ints of one sign: the lesser of the two beside the greater -/
theorem side_sq {x y : Int} (h : (0 ≤ x ∧ x ≤ y) ∨ (y ≤ x ∧ x ≤ 0)) : (y - x) * (y - x) ≤ y * y := by
  rcases h with ⟨h1, h2⟩ | ⟨h1, h2⟩
  · exact Int.mul_le_mul (by omega) (by omega) (by omega) (by omega)
  · have := Int.mul_le_mul (a := x - y) (b := x - y) (c := -y) (d := -y) (by omega) (by omega) (by omega) (by omega)
    rw [Int.neg_mul_neg] at this
    have e : (x - y) * (x - y) = (y - x) * (y - x) := by grind
    rw [← e]; exact this

theorem lineOf_ne {p q : P2} (h : p ≠ q) : (lineOf p q).1 ≠ 0 ∨ (lineOf p q).2.1 ≠ 0 := norm3_ne _ (diff_ne h)

/-- two points of a line, the one beside the other seen from the foot of p: a nearer pair -/
theorem kelly_pair {r s p q t : P2} (hrs : r ≠ s) (hp : ¬ On (lineOf r s) p) (hq : On (lineOf r s) q) (ht : On (lineOf r s) t) (hqt : q ≠ t)
    (h : (0 ≤ tau (lineOf r s) p q ∧ tau (lineOf r s) p q ≤ tau (lineOf r s) p t) ∨ (tau (lineOf r s) p t ≤ tau (lineOf r s) p q ∧ tau (lineOf r s) p q ≤ 0)) :
    t ≠ p ∧ ¬ On (lineOf t p) q ∧ much (lineOf t p) q * much (lineOf t p) q * nn (lineOf r s) < much (lineOf r s) p * much (lineOf r s) p * nn (lineOf t p) := by
  have htp : t ≠ p := fun z => hp (z ▸ ht)
  refine ⟨htp, fun z => ?_, kelly hq ht (lineOf_ne hrs) (lineOf_ne htp) hp (on_right htp) (on_left htp) (side_sq h)⟩
  -- q and t on both lines
  have e1 := lineOf_unique hrs hqt hq ht
  have e2 := lineOf_unique htp hqt z (on_left htp)
  exact hp (by rw [← e1, e2]; exact on_right htp)

/-- a nearest pair's line has at most two of the points -/
theorem kelly_two {S : List P2} {r s p : P2} (hrs : r ≠ s) (hpS : p ∈ S) (hp : ¬ On (lineOf r s) p)
    (least : ∀ t ∈ S, ∀ u ∈ S, ∀ q ∈ S, t ≠ u → ¬ On (lineOf t u) q → ¬ much (lineOf t u) q * much (lineOf t u) q * nn (lineOf r s) < much (lineOf r s) p * much (lineOf r s) p * nn (lineOf t u))
    {x y z : P2} (hx : x ∈ S) (hy : y ∈ S) (hz : z ∈ S) (ox : On (lineOf r s) x) (oy : On (lineOf r s) y) (oz : On (lineOf r s) z) : x = y ∨ y = z ∨ x = z := by
  by_cases h1 : x = y
  · exact .inl h1
  by_cases h2 : y = z
  · exact .inr (.inl h2)
  by_cases h3 : x = z
  · exact .inr (.inr h3)
  exfalso
  have pair : ∀ {q t : P2}, q ∈ S → t ∈ S → On (lineOf r s) q → On (lineOf r s) t → q ≠ t →
      ¬ ((0 ≤ tau (lineOf r s) p q ∧ tau (lineOf r s) p q ≤ tau (lineOf r s) p t) ∨ (tau (lineOf r s) p t ≤ tau (lineOf r s) p q ∧ tau (lineOf r s) p q ≤ 0)) := by
    intro q t hq ht oq ot hqt h
    obtain ⟨a, b, c⟩ := kelly_pair hrs hp oq ot hqt h
    exact least t ht p hpS q hq a b c
  have a1 := pair hx hy ox oy h1
  have a2 := pair hy hx oy ox (Ne.symm h1)
  have a3 := pair hy hz oy oz h2
  have a4 := pair hz hy oz oy (Ne.symm h2)
  have a5 := pair hx hz ox oz h3
  have a6 := pair hz hx oz ox (Ne.symm h3)
  omega

/-! ### the least of finitely many fractions -/
theorem least_frac {α : Type} (N D : α → Int) : ∀ (l : List α), (∀ x ∈ l, 0 < D x) → l ≠ [] → ∃ x ∈ l, ∀ y ∈ l, ¬ N y * D x < N x * D y
  | [], _, h => absurd rfl h
  | [a], _, _ => ⟨a, List.mem_cons_self, fun y hy => by
      have e : y = a := by simpa using hy
      subst e; omega⟩
  | a :: b :: l, hd, _ => by
    obtain ⟨x, hx, hl⟩ := least_frac N D (b :: l) (fun y hy => hd y (List.mem_cons_of_mem _ hy)) (by simp)
    have da := hd a List.mem_cons_self
    have dx := hd x (List.mem_cons_of_mem _ hx)
    by_cases h : N a * D x < N x * D a
    · refine ⟨a, List.mem_cons_self, fun y hy => ?_⟩
      rcases List.mem_cons.mp hy with e | hy
      · subst e; omega
      · have dy := hd y (List.mem_cons_of_mem _ hy)
        intro c
        have h2 := hl y hy
        -- N y * D a < N a * D y, N a * D x < N x * D a, so N y * D x < N x * D y
        have s1 : N y * D a * D x < N a * D y * D x := Int.mul_lt_mul_of_pos_right c dx
        have s2 : N a * D x * D y < N x * D a * D y := Int.mul_lt_mul_of_pos_right h dy
        have s3 : (N y * D x) * D a < (N x * D y) * D a := by
          have e1 : N y * D a * D x = N y * D x * D a := by grind
          have e2 : N a * D y * D x = N a * D x * D y := by grind
          have e3 : N x * D a * D y = N x * D y * D a := by grind
          omega
        exact h2 (Int.lt_of_mul_lt_mul_right s3 (Int.le_of_lt da))
    · refine ⟨x, List.mem_cons_of_mem _ hx, fun y hy => ?_⟩
      rcases List.mem_cons.mp hy with e | hy
      · subst e; exact h
      · exact hl y hy

/-! ### points that do not lie on one line: a line with just two -/
def Col (S : List P2) : Prop := ∀ p ∈ S, ∀ q ∈ S, ∀ r ∈ S, p ≠ q → On (lineOf p q) r
theorem sylvester {S : List P2} (h : ¬ Col S) : ∃ p ∈ S, ∃ q ∈ S, p ≠ q ∧ ∀ x ∈ S, On (lineOf p q) x → x = p ∨ x = q := by
  -- all triples
  have hne : (((S.flatMap fun p => S.flatMap fun q => S.map fun r => (p, q, r)).filter fun t => decide (t.1 ≠ t.2.1 ∧ ¬ On (lineOf t.1 t.2.1) t.2.2))) ≠ [] := by
    intro z
    apply h
    intro p hp q hq r hr hpq
    by_cases o : On (lineOf p q) r
    · exact o
    · exfalso
      have : (p, q, r) ∈ (((S.flatMap fun p => S.flatMap fun q => S.map fun r => (p, q, r)).filter fun t => decide (t.1 ≠ t.2.1 ∧ ¬ On (lineOf t.1 t.2.1) t.2.2))) := by
        refine List.mem_filter.mpr ⟨?_, decide_eq_true ⟨hpq, o⟩⟩
        exact List.mem_flatMap.mpr ⟨p, hp, List.mem_flatMap.mpr ⟨q, hq, List.mem_map.mpr ⟨r, hr, rfl⟩⟩⟩
      rw [z] at this
      cases this
  obtain ⟨⟨r, s, p⟩, ht, least⟩ := least_frac (fun t => much (lineOf t.1 t.2.1) t.2.2 * much (lineOf t.1 t.2.1) t.2.2) (fun t => nn (lineOf t.1 t.2.1)) _ (fun t ht => nn_pos (lineOf_ne (of_decide_eq_true (List.mem_filter.mp ht).2).1)) hne
  obtain ⟨h1, h2⟩ := List.mem_filter.mp ht
  obtain ⟨hrs, hp⟩ := of_decide_eq_true h2
  obtain ⟨r', hr', h1⟩ := List.mem_flatMap.mp h1
  obtain ⟨s', hs', h1⟩ := List.mem_flatMap.mp h1
  obtain ⟨p', hp', e⟩ := List.mem_map.mp h1
  injection e with e1 e2
  injection e2 with e2 e3
  subst e1 e2 e3
  refine ⟨r', hr', s', hs', hrs, fun x hx ox => ?_⟩
  have := kelly_two (S := S) hrs hp' hp (fun t ht u hu q hq htu o => least (t, u, q) (List.mem_filter.mpr ⟨List.mem_flatMap.mpr ⟨t, ht, List.mem_flatMap.mpr ⟨u, hu, List.mem_map.mpr ⟨q, hq, rfl⟩⟩⟩, decide_eq_true ⟨htu, o⟩⟩)) hx hr' hs' ox (on_left hrs) (on_right hrs)
  rcases this with e | e | e
  · exact .inl e
  · exact absurd e hrs
  · exact .inr e

/-! ### as many lines as points -/
/-- L: all lines of S, each once -/
structure LinesFor (S : List P2) (L : List L3) : Prop where
  nd : L.Nodup
  mem : ∀ l, l ∈ L ↔ ∃ p ∈ S, ∃ q ∈ S, p ≠ q ∧ l = lineOf p q
theorem nodup_sub_length {α : Type} [DecidableEq α] : ∀ {A B : List α}, A.Nodup → (∀ x ∈ A, x ∈ B) → A.length ≤ B.length
  | [], B, _, _ => Nat.zero_le _
  | a :: A, B, hn, hs => by
    have ha : a ∈ B := hs a List.mem_cons_self
    have hn' := List.nodup_cons.mp hn
    have := nodup_sub_length (A := A) (B := B.erase a) hn'.2 (fun x hx => by
      have hxa : x ≠ a := fun e => hn'.1 (e ▸ hx)
      exact (List.mem_erase_of_ne hxa).mpr (hs x (List.mem_cons_of_mem _ hx)))
    rw [List.length_erase_of_mem ha] at this
    have hpos : 0 < B.length := List.length_pos_of_mem ha
    simp only [List.length_cons]
    omega
/-- one point p beside a line m, the others S' on it: the lines through p -/
theorem fan_nodup {S' : List P2} {p : P2} {m : L3} (hn : S'.Nodup) (hm : ∀ x ∈ S', ∀ y ∈ S', x ≠ y → lineOf x y = m) (hp : ¬ On m p) (hpS : p ∉ S') : (S'.map (lineOf p)).Nodup := by
  unfold List.Nodup
  rw [List.pairwise_map]
  refine List.Pairwise.imp_of_mem ?_ hn
  intro x y hx hy hxy e
  have px : p ≠ x := fun z => hpS (z ▸ hx)
  have py : p ≠ y := fun z => hpS (z ▸ hy)
  have := lineOf_unique px hxy (on_right px) (by rw [e]; exact on_right py)
  rw [hm x hx y hy hxy] at this
  exact hp (by rw [this]; exact on_left px)
theorem as_many : ∀ (n : Nat) (S : List P2) (L : List L3), S.length = n → S.Nodup → LinesFor S L → ¬ Col S → n ≤ L.length := by
  intro n
  induction n with
  | zero => intro S L _ _ _ _; exact Nat.zero_le _
  | succ n ih =>
    intro S L hlen hS hL hc
    obtain ⟨p, hp, q, hq, hpq, two⟩ := sylvester hc
    have hlen' : (S.erase p).length = n := by rw [List.length_erase_of_mem hp]; omega
    have hS' : (S.erase p).Nodup := hS.erase p
    have hpS' : p ∉ S.erase p := fun z => (List.Nodup.mem_erase_iff hS |>.mp z).1 rfl
    have sub : ∀ x ∈ S.erase p, x ∈ S := fun x hx => (List.Nodup.mem_erase_iff hS |>.mp hx).2
    have into : ∀ x ∈ S, x ≠ p → x ∈ S.erase p := fun x hx hne => List.Nodup.mem_erase_iff hS |>.mpr ⟨hne, hx⟩
    have hqS' : q ∈ S.erase p := into q hq (Ne.symm hpq)
    by_cases hc' : Col (S.erase p)
    · -- another point r beside q
      have : ∃ r ∈ S.erase p, r ≠ q := by
        apply Classical.byContradiction
        intro hno
        apply hc
        have all : ∀ x ∈ S, x = p ∨ x = q := fun x hx => by
          by_cases e : x = p
          · exact .inl e
          · by_cases e2 : x = q
            · exact .inr e2
            · exact absurd ⟨x, into x hx e, e2⟩ hno
        intro a ha b hb c hcx hab
        rcases all a ha with rfl | rfl
        · rcases all b hb with rfl | rfl
          · exact absurd rfl hab
          · rcases all c hcx with rfl | rfl
            · exact on_left hab
            · exact on_right hab
        · rcases all b hb with rfl | rfl
          · rcases all c hcx with rfl | rfl
            · exact on_right hab
            · exact on_left hab
          · exact absurd rfl hab
      obtain ⟨r, hr, hrq⟩ := this
      have hm : ∀ x ∈ S.erase p, ∀ y ∈ S.erase p, x ≠ y → lineOf x y = lineOf r q := fun x hx y hy hxy =>
        lineOf_unique hrq hxy (hc' r hr q hqS' x hx hrq) (hc' r hr q hqS' y hy hrq)
      have hpm : ¬ On (lineOf r q) p := by
        intro o
        have hqr := lineOf_unique hrq (p := p) (q := q) hpq o (on_right hrq)
        have := two r (sub r hr) (by rw [hqr]; exact on_left hrq)
        rcases this with e | e
        · exact hpS' (e ▸ hr)
        · exact hrq e
      have nf := fan_nodup hS' hm hpm hpS'
      have nd : (lineOf r q :: (S.erase p).map (lineOf p)).Nodup := by
        refine List.nodup_cons.mpr ⟨fun z => ?_, nf⟩
        obtain ⟨x, hx, e⟩ := List.mem_map.mp z
        have px : p ≠ x := fun z => hpS' (z ▸ hx)
        exact hpm (by rw [← e]; exact on_left px)
      have := nodup_sub_length nd (B := L) (fun l hl => by
        rcases List.mem_cons.mp hl with e | hl
        · exact (hL.mem l).mpr ⟨r, sub r hr, q, hq, hrq, e⟩
        · obtain ⟨x, hx, e⟩ := List.mem_map.mp hl
          exact (hL.mem l).mpr ⟨p, hp, x, sub x hx, fun z => hpS' (z ▸ hx), e.symm⟩)
      simp only [List.length_cons, List.length_map, hlen'] at this
      exact this
    · classical
      have hL' : LinesFor (S.erase p) (L.filter fun l => decide (∃ a ∈ S.erase p, ∃ b ∈ S.erase p, a ≠ b ∧ l = lineOf a b)) := by
        refine ⟨hL.nd.filter _, fun l => ?_⟩
        rw [List.mem_filter]
        constructor
        · rintro ⟨_, h2⟩; exact of_decide_eq_true h2
        · rintro ⟨a, ha, b, hb, hab, e⟩
          exact ⟨(hL.mem l).mpr ⟨a, sub a ha, b, sub b hb, hab, e⟩, decide_eq_true ⟨a, ha, b, hb, hab, e⟩⟩
      have h1 := ih _ _ hlen' hS' hL' hc'
      have hin : lineOf p q ∈ L := (hL.mem _).mpr ⟨p, hp, q, hq, hpq, rfl⟩
      have hout : lineOf p q ∉ L.filter fun l => decide (∃ a ∈ S.erase p, ∃ b ∈ S.erase p, a ≠ b ∧ l = lineOf a b) := by
        intro z
        obtain ⟨a, ha, b, hb, hab, e⟩ := (hL'.mem _).mp z
        have oa := two a (sub a ha) (by rw [e]; exact on_left hab)
        have ob := two b (sub b hb) (by rw [e]; exact on_right hab)
        rcases oa with e1 | e1
        · exact hpS' (e1 ▸ ha)
        · rcases ob with e2 | e2
          · exact hpS' (e2 ▸ hb)
          · exact hab (e1.trans e2.symm)
      have nd : (lineOf p q :: L.filter fun l => decide (∃ a ∈ S.erase p, ∃ b ∈ S.erase p, a ≠ b ∧ l = lineOf a b)).Nodup := List.nodup_cons.mpr ⟨hout, hL'.nd⟩
      have := nodup_sub_length nd (B := L) (fun l hl => by
        rcases List.mem_cons.mp hl with e | hl
        · exact e ▸ hin
        · exact (List.mem_filter.mp hl).1)
      simp only [List.length_cons] at this
      omega
/-- just one point beside a line: just as many -/
theorem just_as_many {S : List P2} {L : List L3} {p : P2} {m : L3} (hS : S.Nodup) (hL : LinesFor S L) (hp : p ∈ S) (hm : m ∈ L) (hpm : ¬ On m p) (hall : ∀ x ∈ S, x ≠ p → On m x) : L.length = S.length := by
  have hlen' : (S.erase p).length + 1 = S.length := by
    rw [List.length_erase_of_mem hp]
    have := List.length_pos_of_mem hp
    omega
  have hS' : (S.erase p).Nodup := hS.erase p
  have hpS' : p ∉ S.erase p := fun z => (List.Nodup.mem_erase_iff hS |>.mp z).1 rfl
  have sub : ∀ x ∈ S.erase p, x ∈ S := fun x hx => (List.Nodup.mem_erase_iff hS |>.mp hx).2
  have into : ∀ x ∈ S, x ≠ p → x ∈ S.erase p := fun x hx hne => List.Nodup.mem_erase_iff hS |>.mpr ⟨hne, hx⟩
  obtain ⟨r, hr, s, hs, hrs, em⟩ := (hL.mem m).mp hm
  have hmm : ∀ x ∈ S.erase p, ∀ y ∈ S.erase p, x ≠ y → lineOf x y = m := fun x hx y hy hxy => by
    rw [em]
    refine lineOf_unique hrs hxy ?_ ?_
    · rw [← em]; exact hall x (sub x hx) (fun z => hpS' (z ▸ hx))
    · rw [← em]; exact hall y (sub y hy) (fun z => hpS' (z ▸ hy))
  have nf := fan_nodup hS' hmm hpm hpS'
  have nd : (m :: (S.erase p).map (lineOf p)).Nodup := by
    refine List.nodup_cons.mpr ⟨fun z => ?_, nf⟩
    obtain ⟨x, hx, e⟩ := List.mem_map.mp z
    have px : p ≠ x := fun z => hpS' (z ▸ hx)
    exact hpm (by rw [← e]; exact on_left px)
  have h1 := nodup_sub_length nd (B := L) (fun l hl => by
    rcases List.mem_cons.mp hl with e | hl
    · exact e ▸ hm
    · obtain ⟨x, hx, e⟩ := List.mem_map.mp hl
      exact (hL.mem l).mpr ⟨p, hp, x, sub x hx, fun z => hpS' (z ▸ hx), e.symm⟩)
  have h2 := nodup_sub_length hL.nd (B := m :: (S.erase p).map (lineOf p)) (fun l hl => by
    obtain ⟨a, ha, b, hb, hab, e⟩ := (hL.mem l).mp hl
    by_cases ea : a = p
    · subst ea
      exact List.mem_cons_of_mem _ (List.mem_map.mpr ⟨b, into b hb (Ne.symm hab), e.symm⟩)
    · by_cases eb : b = p
      · subst eb
        refine List.mem_cons_of_mem _ (List.mem_map.mpr ⟨a, into a ha ea, ?_⟩)
        rw [e]; exact lineOf_comm hab
      · rw [e, hmm a (into a ha ea) b (into b hb eb) hab]
        exact List.mem_cons_self)
  simp only [List.length_cons, List.length_map] at h1 h2
  omega
end Tw
namespace Tw
/-! ### where two lines cross -/
def crs (l m : L3) : Int := l.1 * m.2.1 - m.1 * l.2.1
def crX (l m : L3) : P2 := frac (l.2.2 * m.2.1 - m.2.2 * l.2.1) (crs l m)
def crY (l m : L3) : P2 := frac (l.1 * m.2.2 - m.1 * l.2.2) (crs l m)
theorem cross_alg (a b c a' b' c' : Int) : a * (c * b' - c' * b) + b * (a * c' - a' * c) = c * (a * b' - a' * b) ∧ a' * (c * b' - c' * b) + b' * (a * c' - a' * c) = c' * (a * b' - a' * b) := by
  constructor <;> grind
theorem thr_alg {a b c X Y u d e x0 x1 y0 y1 : Int} (h : a * X + b * Y = c * u) (hX : X = d * x0) (hu : u = d * x1) (hY : Y = e * y0) (hu' : u = e * y1) : (d * e) * (a * x0 * y1 + b * y0 * x1) = (d * e) * (c * x1 * y1) := by
  have h1 : (d * e) * (a * x0 * y1 + b * y0 * x1) = a * (d * x0) * (e * y1) + b * (e * y0) * (d * x1) := by grind
  have h2 : (d * e) * (c * x1 * y1) = c * (d * x1) * (e * y1) := by grind
  rw [h1, h2, ← hX, ← hu', ← hY, ← hu]
  have h3 : a * X * u + b * Y * u = (a * X + b * Y) * u := by grind
  rw [h3, h]
def Thr (l : L3) (x y : P2) : Prop := l.1 * x.1 * y.2 + l.2.1 * y.1 * x.2 = l.2.2 * x.2 * y.2
theorem cross_thr {l m : L3} (h : crs l m ≠ 0) : Thr l (crX l m) (crY l m) ∧ Thr m (crX l m) (crY l m) := by
  obtain ⟨d, hd, x1, x2, _, _⟩ := frac_spec (l.2.2 * m.2.1 - m.2.2 * l.2.1) h
  obtain ⟨e, he, y1, y2, _, _⟩ := frac_spec (l.1 * m.2.2 - m.1 * l.2.2) h
  have hde : d * e ≠ 0 := fun z => by
    rcases Int.mul_eq_zero.mp z with z | z
    · exact hd z
    · exact he z
  obtain ⟨a1, a2⟩ := cross_alg l.1 l.2.1 l.2.2 m.1 m.2.1 m.2.2
  exact ⟨Int.eq_of_mul_eq_mul_left hde (thr_alg a1 x1 x2 y1 y2), Int.eq_of_mul_eq_mul_left hde (thr_alg a2 x1 x2 y1 y2)⟩
theorem low_of {t b : Int} (h : cm t b = 1) : low t b = (t, b) := by
  unfold low
  rw [h, Int.fdiv_one, Int.fdiv_one]
theorem frac_is (t : Int) {b : Int} (h : b ≠ 0) : 0 < (frac t b).2 ∧ low (frac t b).1 (frac t b).2 = frac t b := by
  obtain ⟨d, _, _, _, h1, h2⟩ := frac_spec t h
  exact ⟨h1, low_of h2⟩
/-- a fraction's numbers are no greater than those that it was made of -/
theorem frac_le (t : Int) {b : Int} (h : b ≠ 0) : (frac t b).1.natAbs ≤ t.natAbs ∧ (frac t b).2.natAbs ≤ b.natAbs := by
  obtain ⟨d, hd, h1, h2, _, _⟩ := frac_spec t h
  have le : ∀ {x y : Int}, x = d * y → y.natAbs ≤ x.natAbs := fun {x y} e => by
    rw [e, Int.natAbs_mul]
    exact Nat.le_mul_of_pos_left _ (Int.natAbs_pos.mpr hd)
  exact ⟨le h1, le h2⟩
end Tw
namespace Tw
open PySem PySem.Spec PyProof.Rows L2

/-! ### a def that stands, a def that keeps its promise -/
structure Df (K : PySem.W.Frag) (mg : Str → Option Value) (x : Str) (st : Stmt) (ps : List Str) where
  f : Addr
  fd : FuncData
  F : Fun K x x st f fd
  g : mg x = some (.ref f)
  b : Binds K fd ps []
structure Fn (P : Program) (w : World) (K : PySem.W.Frag) (mg : Str → Option Value) (base : Heap) (CX : CXT) (k : Nat) (x : Str) (ps : List Str) (sp : Sp) where
  f : Addr
  fd : FuncData
  ok : FnOk P w K mg base CX k f fd ps sp
  g : mg x = some (.ref f)
  kp : PySem.W.keepIn K (.ref f) = true
  b : Binds K fd ps []
section
variable {P : Program} {w : World} {K : PySem.W.Frag} {mg : Str → Option Value} {base : Heap} {CX : CXT} {k : Nat} {x : Str} {ps : List Str} {sp : Sp} {st : Stmt}
def Df.fn (D : Df K mg x st ps) (h : FnOk P w K mg base CX k D.f D.fd ps sp) : Fn P w K mg base CX k x ps sp := ⟨D.f, D.fd, h, D.g, D.F.kp, D.b⟩
end
section
variable {X : Cx} {k j : Nat} {x : Str} {ps : List Str} {sp : Sp} {p pos : Pos} {e : Expr} {es : List Expr} {t : TA}
theorem pcall (C : Fn X.prog X.w X.K X.mg X.base CX0 k x ps sp) (hr : Room j X.A) (ha : PA X (e :: es) t) (hkj : k ≤ j := by decide) (hg : Gl X x := by rfl) (hdb : (x == ("__debug__" : Str)) = false := by decide)
    (he : starEach (e :: es) X.env = (false, eval e X.env) :: starEach es X.env := by rfl) (hpl : (backTo pos (starEach es X.env)).any (·.1) = false := by rfl) :
    PE X (.Call (.Name x p) (e :: es) [] pos) (tCall sp [] E0 t) :=
  pe_call C.ok (hr.mono hkj) hg C.g C.kp C.b .nil pass0 ha hdb he hpl
end

/-! ### heaps -/
theorem same_new {H : Hp} {p : Addr} {o : HO} (h : H p = none) : Same H (upd H p o) := fun b u e => by rw [upd_ne (ne_of_none e h)]; exact e
theorem _root_.L2.Same.tup {K : PySem.W.Frag} {H H' : Hp} {a : Addr} {xs : List V} (e : Same H H') (h : SqT K H a xs) : SqT K H' a xs := by
  rcases h with (h | ⟨o, h⟩) | h
  · exact .inl (.inl (e _ _ h))
  · exact .inl (.inr ⟨o, e _ _ h⟩)
  · exact .inr h
/-- v is a tuple of xs -/
def Tp (K : PySem.W.Frag) (H : Hp) (v : V) (xs : List V) : Prop := ∃ t, v = .ref t ∧ SqT K H t xs
theorem Tp.same {K : PySem.W.Frag} {H H' : Hp} {v : V} {xs : List V} (e : Same H H') (h : Tp K H v xs) : Tp K H' v xs := let ⟨t, r, q⟩ := h; ⟨t, r, e.tup q⟩
theorem Tp.new {K : PySem.W.Frag} {H : Hp} {p : Addr} {xs : List V} : Tp K (upd H p (.tup xs)) (.ref p) xs := ⟨p, rfl, SqT.of upd_same⟩
def Pt (K : PySem.W.Frag) (H : Hp) (v : V) (p : P2) : Prop := Tp K H v [.int p.1, .int p.2]
def Ln (K : PySem.W.Frag) (H : Hp) (v : V) (l : L3) : Prop := Tp K H v [.int l.1, .int l.2.1, .int l.2.2]
theorem Pt.same {K : PySem.W.Frag} {H H' : Hp} {v : V} {p : P2} (e : Same H H') (h : Pt K H v p) : Pt K H' v p := Tp.same e h
theorem Ln.same {K : PySem.W.Frag} {H H' : Hp} {v : V} {p : L3} (e : Same H H') (h : Ln K H v p) : Ln K H' v p := Tp.same e h
/-- a new tuple that is tracked -/
def TpN (H H' : Hp) (v : V) (xs : List V) : Prop := ∃ t, v = .ref t ∧ H t = none ∧ H' t = some (.tup xs)
theorem TpN.tp {K : PySem.W.Frag} {H H' : Hp} {v : V} {xs : List V} (h : TpN H H' v xs) : Tp K H' v xs := let ⟨t, r, _, q⟩ := h; ⟨t, r, SqT.of q⟩
theorem at0 {α : Type} {a : α} {l : List α} : atI (a :: l) 0 = some a := atI_nat (j := 0) rfl
theorem at1 {α : Type} {a b : α} {l : List α} : atI (a :: b :: l) 1 = some b := atI_nat (j := 1) rfl
theorem at2 {α : Type} {a b c : α} {l : List α} : atI (a :: b :: c :: l) 2 = some c := atI_nat (j := 2) rfl

/-! ### // by a number of any sign -/
def CDivA (_ j : Int) : Prop := j ≠ 0 ∧ j.natAbs.log2 < 9000
theorem op_fdivA {X : Cx} : OpR X (binaryOp .FloorDiv) (rI CDivA fun i j => .int (i.fdiv j)) := opI fun i j _ _ _ _ _ hc q => floordiv_int hc.1 q (.inl (PyProof.noPylong_of_log2 hc.2))
theorem divA {i j : Int} {b : Nat} (h : j ≠ 0) (hb : j.natAbs < 2 ^ b) (h0 : 0 < b := by decide) (h9 : b ≤ 9000 := by decide) : CDivA i j := ⟨h, Nat.lt_of_lt_of_le (PySem.Flt.log2_lt_of h0 hb) h9⟩
theorem mulA {i j : Int} {a b : Nat} (ha : i.natAbs < 2 ^ a) (hb : j.natAbs < 2 ^ b) (h0 : 0 < a := by decide) (h1 : 0 < b := by decide) (h : a + b ≤ 1000000 := by decide) : CMulW i j := wide_mul ha hb h0 h1 h

/-! ### bounds by powers of two -/
def Bd (k : Nat) (n : Int) : Prop := n.natAbs < 2 ^ k
theorem Bd.mono {j k : Nat} {n : Int} (h : Bd j n) (hjk : j ≤ k := by decide) : Bd k n := Nat.lt_of_lt_of_le h (Nat.pow_le_pow_right (by decide) hjk)
theorem Bd.add {k : Nat} {m n : Int} (h : Bd k m) (h' : Bd k n) : Bd (k + 1) (m + n) := by
  unfold Bd at *
  rw [Nat.pow_succ]
  omega
theorem Bd.neg {k : Nat} {m : Int} (h : Bd k m) : Bd k (-m) := by
  unfold Bd at *
  rw [Int.natAbs_neg]
  exact h
theorem Bd.sub {k : Nat} {m n : Int} (h : Bd k m) (h' : Bd k n) : Bd (k + 1) (m - n) := by
  rw [Int.sub_eq_add_neg]
  exact h.add h'.neg
theorem Bd.mul {j k : Nat} {m n : Int} (h : Bd j m) (h' : Bd k n) : Bd (j + k) (m * n) := wide_lt h h'
theorem Bd.cm {i j : Nat} {m n : Int} (h : Bd i m) (h' : Bd j n) (h0 : n ≠ 0) : Bd j (cm m n) := Nat.lt_of_le_of_lt (cm_le_right m h0) h'
theorem Bd.mulOk {j k : Nat} {m n : Int} (h : Bd j m) (h' : Bd k n) (h0 : 0 < j := by decide) (h1 : 0 < k := by decide) (hs : j + k ≤ 1000000 := by decide) : CMulW m n := wide_mul h h' h0 h1 hs
theorem Bd.divOk {k : Nat} {m n : Int} (h : Bd k n) (hn : n ≠ 0) (h0 : 0 < k := by decide) (h9 : k ≤ 9000 := by decide) : CDivA m n := divA hn h h0 h9

/-! ### statements in short -/
section
variable {X : Cx} {x : Str} {e : Expr} {te : TE} {pos pos' : Pos}
theorem pset (i : Nat) (nd : X.N.Nodup) (he : PE X e te) (hi : X.N[i]? = some x := by rfl) (hx : Loc X.env.scope x := by first | exact Or.inl rfl | exact Or.inr rfl) (hs : swapsWith e (some (.Name x pos')) pos.line X.env = pure false := by rfl)
    (hf : X.fn x = true ∨ X.env.scope.names.lookup x = some .local := by first | exact .inl rfl | exact .inr rfl) : PS X (.Assign [.Name x pos'] e pos) (tAsg te (gName i)) := ps_set nd hi hx he hs hf
theorem pgn (i : Nat) (nd : X.N.Nodup) (hi : X.N[i]? = some x := by rfl) (hx : Loc X.env.scope x := by first | exact Or.inl rfl | exact Or.inr rfl) (hf : X.fn x = true ∨ X.env.scope.names.lookup x = some .local := by first | exact .inl rfl | exact .inr rfl) : PG X (.Name x pos) (gName i) := pg_name nd hi hx hf
end
/-- a reading that is easier to answer, in a block's place -/
theorem pjoin {X : Cx} {sts : List Stmt} {t u : TS} (h : PSs X sts t) (imp : ∀ D σ H, u D σ H → t D σ H) : PSs X sts u := ⟨fun pins s σ H D I hu => h.run pins s σ H D I (imp D σ H hu)⟩
theorem pjoinE {X : Cx} {e : Expr} {t u : TE} (h : PE X e t) (imp : ∀ σ H Q, u σ H Q → t σ H Q) : PE X e u := ⟨fun pins s σ H Q I hu => h.run pins s σ H Q I (imp σ H Q hu)⟩
theorem item_int {ns : List Int} {i : Nat} {y : V} (hi : (ns.map V.int)[i]? = some y) : ∃ z, ns[i]? = some z ∧ y = V.int z := by
  rw [List.getElem?_map] at hi
  cases e : ns[i]? with
  | none =>
    rw [e] at hi
    cases hi
  | some z =>
    rw [e] at hi
    exact ⟨z, rfl, (Option.some.inj hi).symm⟩
/-- an if whose test is known -/
theorem ifT {c : Bool} {A B : Prop} (hc : c = true) (h : A) : if c = true then A else B := by
  rw [if_pos hc]
  exact h
theorem ifF {c : Bool} {A B : Prop} (hc : c = false) (h : B) : if c = true then A else B := by
  rw [hc, if_neg Bool.false_ne_true]
  exact h
theorem tyes {σ : L2.St} {H : Hp} {Q : Bool → Hp → Prop} (h : Q true H) : tYes σ H Q := h
/-- what len asks, by name -/
def rLenS (K : PySem.W.Frag) : List V → Hp → VK → Prop := fun xs H Q => ∃ p ys, xs = [.ref p] ∧ (SqL K H p ys ∨ SqT K H p ys) ∧ Q (.int ys.length) H
/-- the built-in names stand -/
structure Bl (mg : Str → Option Value) : Prop where
  len : mg "len" = none
  abs : mg "abs" = none
  range : mg "range" = none
  isinstance : mg "isinstance" = none
  sorted : mg "sorted" = none
  list : mg "list" = none
  set : mg "set" = none
  int : mg "int" = none
  str : mg "str" = none
  max : mg "max" = none
  tuple : mg "tuple" = none
  bool : mg "bool" = none
theorem while_mono {r : R2} {i : Nat} {v : V} {f : Int → Int → Bool} (e : r = rI0 fun i j => .bl (f i j)) : ∀ σ H (Q Q' : Bool → Hp → Prop), (∀ b H1, Q b H1 → Q' b H1) → (tTest (tOp r (tVar i) (tC v))) σ H Q → (tTest (tOp r (tVar i) (tC v))) σ H Q' := by
  subst e
  rintro σ H Q Q' f ⟨v, e, i, j, e1, e2, k, ek, q⟩
  exact ⟨v, e, i, j, e1, e2, k, ek, f _ _ q⟩

/-! ### points as data -/
def ptD (p : P2) : PyData := .tuple [.int p.1, .int p.2]
theorem ptD_lay (p : P2) : (ptD p).canLay0 = true := by simp [ptD, PyData.canLay0, PyData.canLayAll0]
theorem ptD_depth (p : P2) : (ptD p).depth = 1 := by simp [ptD, PyData.depth, PyData.depthAll]
theorem ptDs_lay : ∀ ps : List P2, PyData.canLayAll0 (ps.map ptD) = true
  | [] => by simp [PyData.canLayAll0]
  | p :: ps => by simp [PyData.canLayAll0, ptD_lay p, ptDs_lay ps]
theorem ptDs_depth : ∀ ps : List P2, PyData.depthAll (ps.map ptD) ≤ 1
  | [] => by simp [PyData.depthAll]
  | p :: ps => by
    have h1 := ptDs_depth ps
    have h2 := ptD_depth p
    simp only [List.map_cons, PyData.depthAll]
    omega
theorem ptD_shaped (p : P2) : SeqAt.shaped (ptD p) = true := by
  have h := ptD_depth p
  show ((ptD p).canLay0 && decide ((ptD p).depth ≤ 64)) = true
  rw [Bool.and_eq_true]
  exact ⟨ptD_lay p, decide_eq_true (by omega)⟩
theorem ptDs_shaped (ps : List P2) : SeqAt.shaped (.list (ps.map ptD)) = true := by
  have h1 := ptDs_depth ps
  have h2 : PyData.depth (.list (ps.map ptD)) ≤ 64 := by
    simp only [PyData.depth]
    omega
  show (PyData.canLay0 (.list (ps.map ptD)) && decide (PyData.depth (.list (ps.map ptD)) ≤ 64)) = true
  rw [Bool.and_eq_true]
  exact ⟨by simp only [PyData.canLay0]; exact ptDs_lay ps, decide_eq_true h2⟩
theorem ptD_eqv (p q : P2) : PyData.eqv (ptD p) (ptD q) = decide (p = q) := by
  obtain ⟨a, b⟩ := p
  obtain ⟨c, d⟩ := q
  have e : PyData.eqv (ptD (a, b)) (ptD (c, d)) = ((a == c) && ((b == d) && true)) := by simp only [ptD, PyData.eqv, PyData.eqvAll]
  rw [e]
  by_cases h1 : a = c
  · by_cases h2 : b = d
    · simp [h1, h2]
    · simp [h1, h2]
  · simp [h1]
theorem pt_any (p : P2) : ∀ ps : List P2, ((ps.map ptD).any fun z => PyData.eqv z (ptD p)) = decide (p ∈ ps)
  | [] => by simp
  | q :: ps => by
    rw [List.map_cons, List.any_cons, pt_any p ps, ptD_eqv]
    by_cases h : q = p
    · simp [h]
    · have : ¬ p = q := fun z => h z.symm
      by_cases h2 : p ∈ ps <;> simp [h, h2, this]

/-! ### tuples of ints as data -/
def tiD (ns : List Int) : PyData := .tuple (ns.map .int)
theorem ints_lay : ∀ ns : List Int, PyData.canLayAll0 (ns.map .int) = true
  | [] => by simp [PyData.canLayAll0]
  | n :: ns => by simp [PyData.canLayAll0, PyData.canLay0, ints_lay ns]
theorem ints_depth : ∀ ns : List Int, PyData.depthAll (ns.map .int) = 0
  | [] => by simp [PyData.depthAll]
  | n :: ns => by
    have h := ints_depth ns
    simp only [List.map_cons, PyData.depthAll, PyData.depth]
    omega
theorem tiD_shaped (ns : List Int) : SeqAt.shaped (tiD ns) = true := by
  have h : (tiD ns).depth ≤ 64 := by
    have := ints_depth ns
    simp only [tiD, PyData.depth]
    omega
  show ((tiD ns).canLay0 && decide ((tiD ns).depth ≤ 64)) = true
  rw [Bool.and_eq_true]
  exact ⟨by simp only [tiD, PyData.canLay0]; exact ints_lay ns, decide_eq_true h⟩
theorem ints_eqv : ∀ ns ms : List Int, PyData.eqvAll (ns.map .int) (ms.map .int) = decide (ns = ms)
  | [], [] => by simp [PyData.eqvAll]
  | [], m :: ms => by simp [PyData.eqvAll]
  | n :: ns, [] => by simp [PyData.eqvAll]
  | n :: ns, m :: ms => by
    have ih := ints_eqv ns ms
    simp only [List.map_cons, PyData.eqvAll, PyData.eqv, ih]
    by_cases h : n = m
    · by_cases h2 : ns = ms <;> simp [h, h2]
    · simp [h]
theorem tiD_eqv (ns ms : List Int) : PyData.eqv (tiD ns) (tiD ms) = decide (ns = ms) := by
  show PyData.eqvAll (ns.map .int) (ms.map .int) = _
  exact ints_eqv ns ms
theorem ints_dp {K : PySem.W.Frag} {H : Hp} : ∀ ns : List Int, DpAll K H (ns.map V.int) (ns.map .int)
  | [] => .nil
  | n :: ns => .cons (.int n) (ints_dp ns)
theorem tp_dp {K : PySem.W.Frag} {H : Hp} {v : V} {ns : List Int} (h : Tp K H v (ns.map V.int)) : Dp K H v (tiD ns) := by
  obtain ⟨t, rfl, q⟩ := h
  exact .tup q (ints_dp ns)
theorem pt_dp {K : PySem.W.Frag} {H : Hp} {v : V} {p : P2} (h : Pt K H v p) : Dp K H v (ptD p) := tp_dp (ns := [p.1, p.2]) h
theorem ln_dp {K : PySem.W.Frag} {H : Hp} {v : V} {l : L3} (h : Ln K H v l) : Dp K H v (tiD [l.1, l.2.1, l.2.2]) := tp_dp (ns := [l.1, l.2.1, l.2.2]) h
/-! ### a list of points -/
theorem same_upd {H H' : Hp} {p : Addr} {o : HO} (S : Same H H') (h : H p = none) : Same H (upd H' p o) := fun b u e => by rw [upd_ne (ne_of_none e h)]; exact S b u e
theorem hu65 {k : Nat} {A : Around} (hr : Room k A) : A.units + 65 < cLine := by have := hr.un; omega
/-- at p stands the list of the points ks, each at its address -/
structure PtsL (H : Hp) (p : Addr) (ks : List (Addr × P2)) : Prop where
  lst : H p = some (.lst (ks.map fun k => V.ref k.1))
  tup : ∀ k ∈ ks, H k.1 = some (.tup [.int k.2.1, .int k.2.2])
def ptsOf (ks : List (Addr × P2)) : List P2 := ks.map (·.2)
theorem PtsL.same {H H' : Hp} {p : Addr} {ks : List (Addr × P2)} (S : Same H H') (h : PtsL H p ks) : PtsL H' p ks := ⟨S _ _ h.lst, fun k hk => S _ _ (h.tup k hk)⟩
theorem pts_dpAll {K : PySem.W.Frag} {H : Hp} : ∀ {ks : List (Addr × P2)}, (∀ k ∈ ks, H k.1 = some (.tup [.int k.2.1, .int k.2.2])) → DpAll K H (ks.map fun k => V.ref k.1) ((ptsOf ks).map ptD)
  | [], _ => .nil
  | k :: ks, h => .cons (pt_dp ⟨_, rfl, SqT.of (h k List.mem_cons_self)⟩) (pts_dpAll fun k hk => h k (List.mem_cons_of_mem _ hk))
theorem PtsL.dp {K : PySem.W.Frag} {H : Hp} {p : Addr} {ks : List (Addr × P2)} (h : PtsL H p ks) : Dp K H (.ref p) (.list ((ptsOf ks).map ptD)) := .lst (SqL.of h.lst) (pts_dpAll h.tup)
/-- one more point -/
theorem PtsL.more {H : Hp} {p t : Addr} {ks : List (Addr × P2)} {q : P2} (h : PtsL H p ks) (ht : H t = some (.tup [.int q.1, .int q.2])) : PtsL (upd H p (.lst ((ks.map fun k => V.ref k.1) ++ [.ref t]))) p (ks ++ [(t, q)]) := by
  have ne : ∀ a xs, H a = some (.tup xs) → a ≠ p := fun a xs e => ne_of e h.lst (by intro z; cases z)
  refine ⟨by rw [upd_same, List.map_append]; rfl, fun k hk => ?_⟩
  rcases List.mem_append.mp hk with hk | hk
  · rw [upd_ne (ne _ _ (h.tup k hk))]
    exact h.tup k hk
  · have e : k = (t, q) := by simpa using hk
    rw [e, upd_ne (ne _ _ ht)]
    exact ht
/-- points as the laws draw them -/
def Ok (p : P2) : Prop := -1000000 ≤ p.1 ∧ p.1 ≤ 1000000 ∧ -1000000 ≤ p.2 ∧ p.2 ≤ 1000000
structure PsOk (ps : List P2) : Prop where
  nd : ps.Nodup
  ok : ∀ p ∈ ps, Ok p
  two : 2 ≤ ps.length
/-! ### a tuple of one word -/
def wdD (x : Str) : PyData := .tuple [.str x]
theorem wdD_shaped {x : Str} (h : PyData.strOk x = true) : SeqAt.shaped (wdD x) = true := by
  show ((wdD x).canLay0 && decide ((wdD x).depth ≤ 64)) = true
  simp [wdD, PyData.canLay0, PyData.canLayAll0, PyData.depth, PyData.depthAll, h]
theorem wdD_refl (x : Str) : PyData.eqv (wdD x) (wdD x) = true := by simp [wdD, PyData.eqv, PyData.eqvAll]
theorem wd_dp {K : PySem.W.Frag} {H : Hp} {v : V} {x : Str} (h : Tp K H v [.str x]) : Dp K H v (wdD x) := by
  obtain ⟨t, rfl, q⟩ := h
  exact .tup q (.cons (.str x) .nil)
def lnD (l : L3) : PyData := tiD [l.1, l.2.1, l.2.2]
theorem lnD_shaped (l : L3) : SeqAt.shaped (lnD l) = true := tiD_shaped _
theorem lnD_eqv (l m : L3) : PyData.eqv (lnD l) (lnD m) = decide (l = m) := by
  unfold lnD
  rw [tiD_eqv]
  obtain ⟨a, b, c⟩ := l
  obtain ⟨x, y, z⟩ := m
  by_cases h1 : a = x
  · by_cases h2 : b = y
    · by_cases h3 : c = z
      · simp [h1, h2, h3]
      · simp [h1, h2, h3]
    · simp [h1, h2]
  · simp [h1]
/-! ### small numbers: a line's, a point's; the promise of a line through two points -/
def LnB (l : L3) : Prop := Bd 21 l.1 ∧ Bd 21 l.2.1 ∧ Bd 42 l.2.2
def PtB (p : P2) : Prop := Bd 20 p.1 ∧ Bd 20 p.2
theorem cm_bd {k : Nat} {a b : Int} (h : a ≠ 0 ∨ b ≠ 0) (ha : Bd k a) (hb : Bd k b) : Bd k (cm a b) := by
  rcases h with h | h
  · exact Nat.lt_of_le_of_lt (cm_le_left b h) ha
  · exact Nat.lt_of_le_of_lt (cm_le_right a h) hb
theorem cm3_bd {k : Nat} {a b : Int} (c : Int) (h : a ≠ 0 ∨ b ≠ 0) (ha : Bd k a) (hb : Bd k b) : Bd k (cm (cm a b) c) :=
  Nat.lt_of_le_of_lt (cm_le_left c (by have := cm_pos h; omega)) (cm_bd h ha hb)
def spLine (K : PySem.W.Frag) : Sp := fun vs H Q _ => ∃ (v u : V) (p q : P2), vs = [v, u] ∧ Pt K H v p ∧ Pt K H u q ∧ PtB p ∧ PtB q ∧ p ≠ q ∧
  ∀ t, H t = none → Q (.ref t) (upd H t (.tup [.int (lineOf p q).1, .int (lineOf p q).2.1, .int (lineOf p q).2.2]))
theorem abs_of_dvd {k d x y : Int} (h : x = d * y) (hd : d ≠ 0) : y.natAbs ≤ x.natAbs := by
  rw [h, Int.natAbs_mul]
  exact Nat.le_mul_of_pos_left _ (Int.natAbs_pos.mpr hd)
theorem lineOf_bd {p q : P2} (bp : PtB p) (bq : PtB q) (pq : p ≠ q) : LnB (lineOf p q) := by
  have ba : Bd 21 (q.2 - p.2) := bq.2.sub bp.2
  have bb : Bd 21 (p.1 - q.1) := bp.1.sub bq.1
  have bc : Bd 42 ((q.2 - p.2) * p.1 + (p.1 - q.1) * p.2) := (ba.mul bp.1).add (bb.mul bp.2)
  have na := diff_ne pq
  unfold lineOf
  generalize (q.2 - p.2) * p.1 + (p.1 - q.1) * p.2 = c at bc ⊢
  generalize q.2 - p.2 = a at na ba ⊢
  generalize p.1 - q.1 = b at na bb ⊢
  obtain ⟨h1, h2, h3⟩ := norm3_spec c na
  have hd := dv_ne c na
  exact ⟨Nat.lt_of_le_of_lt (abs_of_dvd (k := 0) h1 hd) ba, Nat.lt_of_le_of_lt (abs_of_dvd (k := 0) h2 hd) bb, Nat.lt_of_le_of_lt (abs_of_dvd (k := 0) h3 hd) bc⟩
theorem Ok.b {p : P2} (h : Ok p) : PtB p := by
  obtain ⟨h1, h2, h3, h4⟩ := h
  constructor
  · show p.1.natAbs < 1048576
    omega
  · show p.2.natAbs < 1048576
    omega
def spLaw (K : PySem.W.Frag) : Sp := fun vs H Q _ => ∃ (a : Addr) (ns : List Int), vs = [.ref a] ∧ SqL K H a (ns.map V.int) ∧ ns.length ≤ 63 ∧ ∀ H', Q (.bl true) H'
theorem pts_at0 {k0 k1 : Addr × P2} {ks : List (Addr × P2)} : atI ((k0 :: k1 :: ks).map fun k => V.ref k.1) 0 = some (.ref k0.1) := atI_nat (j := 0) rfl
theorem pts_at1 {k0 k1 : Addr × P2} {ks : List (Addr × P2)} : atI ((k0 :: k1 :: ks).map fun k => V.ref k.1) 1 = some (.ref k1.1) := atI_nat (j := 1) rfl
/-- the first two of points -/
theorem pts_two {ks : List (Addr × P2)} (h : PsOk (ptsOf ks)) : ∃ k0 k1 kr, ks = k0 :: k1 :: kr ∧ k0.2 ≠ k1.2 ∧ Ok k0.2 ∧ Ok k1.2 := by
  have := h.two
  match ks, this with
  | k0 :: k1 :: kr, _ =>
    refine ⟨k0, k1, kr, rfl, fun e => (List.nodup_cons.mp h.nd).1 (by show k0.2 ∈ _; rw [e]; exact List.mem_cons_self), h.ok _ List.mem_cons_self, h.ok _ (List.mem_cons_of_mem _ List.mem_cons_self)⟩
theorem at_item {α : Type} {f : α → V} {l : List α} {i : Nat} {y : V} (hi : (l.map f)[i]? = some y) : ∃ x, l[i]? = some x ∧ y = f x := by
  rw [List.getElem?_map] at hi
  cases e : l[i]? with
  | none =>
    rw [e] at hi
    cases hi
  | some z =>
    rw [e] at hi
    exact ⟨z, rfl, (Option.some.inj hi).symm⟩
theorem pt0 {K : PySem.W.Frag} {H : Hp} {t : Addr} {x : P2} (h : H t = some (.tup [.int x.1, .int x.2])) : Pt K H (.ref t) x := ⟨t, rfl, SqT.of h⟩
end Tw
namespace Tw
/-! ### the lines of points, as the program gathers them -/
def addK (ks : List L3) (l : L3) : List L3 := if l ∈ ks then ks else ks ++ [l]
def ded (l : List L3) : List L3 := l.foldl addK []
theorem ded_snoc (l : List L3) (x : L3) : ded (l ++ [x]) = addK (ded l) x := by
  unfold ded
  rw [List.foldl_append]
  rfl
theorem mem_addK {ks : List L3} {l x : L3} : x ∈ addK ks l ↔ x ∈ ks ∨ x = l := by
  unfold addK
  split
  · constructor
    · exact .inl
    · rintro (h | h)
      · exact h
      · rw [h]; assumption
  · rw [List.mem_append, List.mem_singleton]
theorem nodup_addK {ks : List L3} {l : L3} (h : ks.Nodup) : (addK ks l).Nodup := by
  unfold addK
  split
  · exact h
  · rename_i n
    refine List.nodup_append.mpr ⟨h, by simp, fun x hx y hy e => ?_⟩
    have ey : y = l := by simpa using hy
    exact n (by rw [← ey, ← e]; exact hx)
theorem length_addK (ks : List L3) (l : L3) : (addK ks l).length ≤ ks.length + 1 := by
  unfold addK
  split
  · omega
  · rw [List.length_append]; exact Nat.le_refl _
theorem ded_facts : ∀ (l acc : List L3), acc.Nodup → (l.foldl addK acc).Nodup ∧ (∀ x, x ∈ l.foldl addK acc ↔ x ∈ acc ∨ x ∈ l) ∧ (l.foldl addK acc).length ≤ acc.length + l.length
  | [], acc, h => ⟨h, fun x => by simp, by simp⟩
  | a :: l, acc, h => by
    obtain ⟨h1, h2, h3⟩ := ded_facts l (addK acc a) (nodup_addK h)
    refine ⟨h1, fun x => ?_, ?_⟩
    · show x ∈ l.foldl addK (addK acc a) ↔ _
      rw [h2, mem_addK, List.mem_cons, or_assoc]
    · show (l.foldl addK (addK acc a)).length ≤ _
      have := length_addK acc a
      simp only [List.length_cons]
      omega
theorem nodup_ded (l : List L3) : (ded l).Nodup := (ded_facts l [] List.nodup_nil).1
theorem mem_ded {l : List L3} {x : L3} : x ∈ ded l ↔ x ∈ l := by
  have := (ded_facts l [] List.nodup_nil).2.1 x
  unfold ded
  rw [this]
  simp
theorem length_ded (l : List L3) : (ded l).length ≤ l.length := by
  have := (ded_facts l [] List.nodup_nil).2.2
  unfold ded
  simpa using this
def ptAt (ps : List P2) (k : Nat) : P2 := ps.getD k (0, 0)
def lnAt (ps : List P2) (j k : Nat) : L3 := lineOf (ptAt ps j) (ptAt ps k)
def rowSeq (ps : List P2) (k j : Nat) : List L3 := (List.range j).map fun i => lnAt ps i k
def allSeq (ps : List P2) (k : Nat) : List L3 := (List.range k).flatMap fun k' => rowSeq ps k' k'
theorem rowSeq_succ (ps : List P2) (k j : Nat) : rowSeq ps k (j + 1) = rowSeq ps k j ++ [lnAt ps j k] := by
  unfold rowSeq
  rw [List.range_succ, List.map_append]
  rfl
theorem allSeq_succ (ps : List P2) (k : Nat) : allSeq ps (k + 1) = allSeq ps k ++ rowSeq ps k k := by
  unfold allSeq
  rw [List.range_succ, List.flatMap_append]
  simp
theorem length_rowSeq (ps : List P2) (k j : Nat) : (rowSeq ps k j).length = j := by
  unfold rowSeq
  rw [List.length_map, List.length_range]
theorem length_allSeq (ps : List P2) : ∀ k, (allSeq ps k).length ≤ k * k
  | 0 => by simp [allSeq]
  | k + 1 => by
    rw [allSeq_succ, List.length_append, length_rowSeq]
    have := length_allSeq ps k
    have e : (k + 1) * (k + 1) = k * k + 2 * k + 1 := by grind
    omega
theorem ptAt_get {ps : List P2} {k : Nat} (h : k < ps.length) : ptAt ps k = ps[k] := by
  unfold ptAt
  rw [List.getD_eq_getElem?_getD, List.getElem?_eq_getElem h]
  rfl
theorem ptAt_mem {ps : List P2} {k : Nat} (h : k < ps.length) : ptAt ps k ∈ ps := by
  rw [ptAt_get h]; exact List.getElem_mem h
theorem ptAt_ne {ps : List P2} (hn : ps.Nodup) {j k : Nat} (hj : j < ps.length) (hk : k < ps.length) (h : j ≠ k) : ptAt ps j ≠ ptAt ps k := by
  rw [ptAt_get hj, ptAt_get hk]
  intro e
  exact h ((List.getElem_inj hn).mp e)
theorem ptAt_of_mem {ps : List P2} {p : P2} (h : p ∈ ps) : ∃ k, k < ps.length ∧ ptAt ps k = p := by
  obtain ⟨k, hk, e⟩ := List.getElem_of_mem h
  exact ⟨k, hk, by rw [ptAt_get hk]; exact e⟩
theorem mem_allSeq {ps : List P2} {n : Nat} {l : L3} : l ∈ allSeq ps n ↔ ∃ k, k < n ∧ ∃ j, j < k ∧ l = lnAt ps j k := by
  unfold allSeq rowSeq
  constructor
  · intro h
    obtain ⟨k, hk, h⟩ := List.mem_flatMap.mp h
    obtain ⟨j, hj, e⟩ := List.mem_map.mp h
    exact ⟨k, List.mem_range.mp hk, j, List.mem_range.mp hj, e.symm⟩
  · rintro ⟨k, hk, j, hj, e⟩
    exact List.mem_flatMap.mpr ⟨k, List.mem_range.mpr hk, List.mem_map.mpr ⟨j, List.mem_range.mpr hj, e.symm⟩⟩
def keysOf (ps : List P2) : List L3 := ded (allSeq ps ps.length)
def linesOf (le : L3 → L3 → Bool) (ps : List P2) : List L3 := (keysOf ps).mergeSort le
theorem mem_linesOf {le : L3 → L3 → Bool} {ps : List P2} {l : L3} : l ∈ linesOf le ps ↔ ∃ k, k < ps.length ∧ ∃ j, j < k ∧ l = lnAt ps j k := by
  unfold linesOf keysOf
  rw [List.mem_mergeSort, mem_ded, mem_allSeq]
theorem linesFor (le : L3 → L3 → Bool) {ps : List P2} (hn : ps.Nodup) : LinesFor ps (linesOf le ps) := by
  refine ⟨(List.mergeSort_perm _ _).nodup_iff.mpr (nodup_ded _), fun l => ?_⟩
  rw [mem_linesOf]
  constructor
  · rintro ⟨k, hk, j, hj, e⟩
    exact ⟨ptAt ps j, ptAt_mem (by omega), ptAt ps k, ptAt_mem hk, ptAt_ne hn (by omega) hk (by omega), e⟩
  · rintro ⟨p, hp, q, hq, hpq, e⟩
    obtain ⟨i, hi, rfl⟩ := ptAt_of_mem hp
    obtain ⟨j, hj, rfl⟩ := ptAt_of_mem hq
    rcases Nat.lt_trichotomy i j with h | h | h
    · exact ⟨j, hj, i, h, e⟩
    · exact absurd (by rw [h]) hpq
    · refine ⟨i, hi, j, h, ?_⟩
      rw [e]
      exact lineOf_comm (Ne.symm hpq)
theorem length_linesOf (le : L3 → L3 → Bool) (ps : List P2) : (linesOf le ps).length ≤ ps.length * ps.length := by
  unfold linesOf keysOf
  rw [List.length_mergeSort]
  exact Nat.le_trans (length_ded _) (length_allSeq ps _)
/-- the places of the points on a line -/
def placesN (ps : List P2) (l : L3) (n : Nat) : List Nat := (List.range n).filter fun k => decide (On l (ptAt ps k))
def places (ps : List P2) (l : L3) : List Nat := placesN ps l ps.length
theorem placesN_succ (ps : List P2) (l : L3) (n : Nat) : placesN ps l (n + 1) = if On l (ptAt ps n) then placesN ps l n ++ [n] else placesN ps l n := by
  unfold placesN
  rw [List.range_succ, List.filter_append]
  by_cases h : On l (ptAt ps n)
  · rw [if_pos h]
    simp [h]
  · rw [if_neg h]
    simp [h]
theorem length_placesN (ps : List P2) (l : L3) (n : Nat) : (placesN ps l n).length ≤ n := by
  have := List.length_filter_le (fun k => decide (On l (ptAt ps k))) (List.range n)
  rw [List.length_range] at this
  exact this
theorem mem_places {ps : List P2} {l : L3} {k : Nat} : k ∈ places ps l ↔ k < ps.length ∧ On l (ptAt ps k) := by
  unfold places placesN
  rw [List.mem_filter, List.mem_range, decide_eq_true_eq]
theorem nodup_places (ps : List P2) (l : L3) : (places ps l).Nodup := List.nodup_range.filter _
def rowsOf (le : L3 → L3 → Bool) (ps : List P2) : List (L3 × List Nat) := (linesOf le ps).map fun l => (l, places ps l)
end Tw
namespace Tw
open PySem PySem.Spec PyProof.Rows L2

/-! ### sorted(lines) -/
def leL : L3 → L3 → Bool := PySem.W.dataLe false fun l => lnD l
theorem each_refs : ∀ {zs : List (Addr × L3)} {us : List Value}, Vals (zs.map fun z => V.ref z.1) us → PySem.W.EachIs (fun v (z : Addr × L3) => v = Value.ref z.1) us zs
  | [], _, .nil => .nil
  | z :: zs, _, .cons r t => by
    cases r
    exact .cons rfl (each_refs t)
theorem each_vals : ∀ {zs : List (Addr × L3)} {us : List Value}, PySem.W.EachIs (fun v (z : Addr × L3) => v = Value.ref z.1) us zs → Vals (zs.map fun z => V.ref z.1) us
  | [], _, .nil => .nil
  | z :: zs, _, .cons r t => .cons r (each_vals t)
theorem each_and {α β : Type} {R S : α → β → Prop} : ∀ {as : List α} {bs : List β}, PySem.W.EachIs R as bs → (∀ b ∈ bs, ∀ a, R a b → S a b) → PySem.W.EachIs S as bs
  | _, _, .nil, _ => .nil
  | _, _, .cons r t, h => .cons (h _ List.mem_cons_self _ r) (each_and t fun b hb a q => h b (List.mem_cons_of_mem _ hb) a q)
def rSortedL (K : PySem.W.Frag) : List V → Hp → VK → Prop := fun vs H Q => ∃ (a : Addr) (zs : List (Addr × L3)), vs = [V.ref a] ∧ SqL K H a (zs.map fun z => V.ref z.1) ∧ (∀ z ∈ zs, H z.1 = some (.tup [.int z.2.1, .int z.2.2.1, .int z.2.2.2])) ∧
  ∀ p, H p = none → Q (.ref p) (upd H p (.lst ((zs.mergeSort fun x y => leL x.2 y.2).map fun z => V.ref z.1)))
theorem cr_sortedL {X : Cx} (hu : X.A.units + 64 < cLine) : CallR X (.builtin "sorted") (rSortedL X.K) := by
  intro pins s σ H vs us Q I r h
  obtain ⟨a, zs, rfl, hs, hx, q⟩ := h
  obtain ⟨its, rv, hl, hz⟩ := I.list hs
  obtain ⟨u, rfl, ru⟩ := vals1 r
  obtain rfl : u = Value.ref a := ru
  have hlen : zs.length ≤ sizeLine := by rw [List.length_map] at hz; exact hz
  have e := each_refs rv
  refine PySem.W.sorted_data (R := fun v (z : Addr × L3) => v = Value.ref z.1) (enc := fun z : Addr × L3 => lnD z.2) hl.isList e ?_ ?_ ?_ hlen ?_ fun out ho ee => ?_
  · refine each_and e fun z hz v hv => ?_
    exact Dp.reads I (lnD z.2) (.ref z.1) v (ln_dp ⟨z.1, rfl, SqT.of (hx z hz)⟩) hv
  · exact PySem.W.AllAlike.of fun b b' => by
      show PySem.W.alikeAll ([b.2.1, b.2.2.1, b.2.2.2].map .int) ([b'.2.1, b'.2.2.1, b'.2.2.2].map .int) = true
      exact PySem.W.alike_ints _ _
  · exact PySem.W.Sortable.tuples fun b => ⟨.int b.2.1, [.int b.2.2.1, .int b.2.2.2], rfl⟩
  · intro b _
    have : (lnD b.2).depth ≤ 1 := by
      have := ints_depth [b.2.1, b.2.2.1, b.2.2.2]
      simp only [lnD, tiD, PyData.depth]
      omega
    show X.A.units + 2 + (lnD b.2).depth < cLine
    omega
  · obtain ⟨n, hn⟩ := PyProof.Rows.sortedAll_at s.heap its out.toArray
    have hv := each_vals ee
    have hf : H (s.heap.objs.size + 1) = none := I.hok.fresh (Nat.le_succ _)
    refine ⟨.ref (s.heap.objs.size + 1), _, I.laid (a := s.heap.objs.size + 1) (o := .lst ((zs.mergeSort fun x y => leL x.2 y.2).map fun z => V.ref z.1)) (t' := s.toks) (fun _ _ => PyProof.Rows.sortedAll_old) (Nat.le_succ _) ?_, rfl, q _ hf⟩
    refine ⟨?_, out, n, hv, hn⟩
    rw [List.length_map, List.length_mergeSort]
    exact hlen
/-! ### len(set(points)) -/
def tLenSetT (K : PySem.W.Frag) (ta : TE) : TE := fun σ H Q => ta σ H fun x H1 => ∃ (l : Addr) (ks : List (Addr × List Int)), x = V.ref l ∧ SqL K H1 l (ks.map fun p => V.ref p.1) ∧ (∀ p ∈ ks, SqT K H1 p.1 (p.2.map V.int)) ∧ ks.length < 64 ∧
  ∀ L : List (Addr × List Int), (∀ p ∈ L, p ∈ ks) → (∀ p ∈ ks, p.2 ∈ L.map (·.2)) → (L.map (·.2)).Nodup → Q (.int L.length) H1
theorem pe_lenSetT {X : Cx} {a : Expr} {ta : TE} {p p2 q pos : Pos} (hc : X.calm = true) (hu : X.A.units + 64 < cLine) (hg : Gl X "len") (hm : X.mg "len" = none) (hg2 : Gl X "set") (hm2 : X.mg "set" = none) (ha : PE X a ta)
    (na : starEach [a] X.env = (false, eval a X.env) :: starEach [] X.env := by rfl) : PE X (.Call (.Name "len" p) [.Call (.Name "set" p2) [a] [] q] [] pos) (tLenSetT X.K ta) := by
  refine ⟨fun pins s σ H Q I h => ?_⟩
  refine Call_ (ld_blt I hg hm PySem.boot_len ?_)
  refine PyProof.Rows.callWith_builtin1 (PyProof.Rows.args_cons ?_ rfl) rfl rfl
  refine Call_ (ld_blt I hg2 hm2 PyProof.Rows.boot_set ?_)
  refine PyProof.Rows.callWith_type1 (PyProof.Rows.args_cons (thn (ha.run pins s σ H _ I h) fun v s1 ⟨x, H1, I1, r1, q1⟩ => PyProof.Rows.args_nil ?_) na) na rfl
  obtain ⟨l, ks, rfl, hl, hk, hf, q1⟩ := q1
  cases r1
  obtain ⟨its, rv, pl, hz⟩ := I1.list hl
  refine call_set_tups (P := X.prog) (w := X.w) ks (I1.ok.hd hc) pl.isList (by simpa using refs_of_vals rv) (fun p hp => L2.Inv.isT I1 (hk p hp)) hf (by omega) fun h' tk L es ep t R g k => ?_
  refine PyProof.Rows.args_nil ?_
  have I2 : Inv X pins σ H1 { s1 with heap := h', toks := tk } := I1.kept k
  obtain ⟨o, ho, hex, hd⟩ := R.ob
  have hsz := SetTR.size (s := { s1 with heap := h', toks := tk }) R
  have hft := SetTR.fits (s := { s1 with heap := h', toks := tk }) R
  have hfew := R.few
  refine call_len_set ho hex hd hft (by rw [hsz] <;> omega) ⟨.int L.length, H1, I2.tok _, ⟨_, by rw [hsz]⟩, q1 L (fun p hp => List.mem_of_mem_take (g.sub p hp)) (fun p hp => g.all p (by rw [List.take_length]; exact hp)) R.nd⟩
/-! ### the dict of lines -/
def encK (l : L3) : List Key := [.inl l.1, .inl l.2.1, .inl l.2.2]
theorem encK_kV (l : L3) : (encK l).map kV = [V.int l.1, V.int l.2.1, V.int l.2.2] := rfl
theorem encK_inj {l m : L3} (h : encK l = encK m) : l = m := by
  obtain ⟨a, b, c⟩ := l
  obtain ⟨x, y, z⟩ := m
  injection h with h1 h
  injection h with h2 h
  injection h with h3 _
  injection h1 with h1
  injection h2 with h2
  injection h3 with h3
  dsimp only at h1 h2 h3
  rw [h1, h2, h3]
def kvL (ks : List L3) : List (List Key × V) := ks.map fun l => (encK l, V.bl true)
theorem kvL_any (ks : List L3) (l : L3) : ((kvL ks).any fun kv => decide (kv.1 = encK l)) = decide (l ∈ ks) := by
  induction ks with
  | nil => simp [kvL]
  | cons m ks ih =>
    show (decide (encK m = encK l) || (kvL ks).any fun kv => decide (kv.1 = encK l)) = _
    rw [ih]
    by_cases h : m = l
    · subst h; simp
    · have h' : ¬ encK m = encK l := fun z => h (encK_inj z)
      have h2 : ¬ l = m := fun z => h z.symm
      by_cases h3 : l ∈ ks <;> simp [h', h2, h3]
theorem kvL_put (ks : List L3) (l : L3) : putK (kvL ks) (encK l) (.bl true) = kvL (addK ks l) := by
  unfold putK
  rw [kvL_any]
  by_cases h : l ∈ ks
  · rw [if_pos (decide_eq_true h)]
    unfold addK
    rw [if_pos h]
    unfold kvL
    rw [List.map_map]
    refine List.map_congr_left fun m _ => ?_
    show (if encK m = encK l then (encK m, V.bl true) else (encK m, V.bl true)) = _
    split <;> rfl
  · rw [if_neg (by rw [decide_eq_false h]; decide)]
    unfold addK
    rw [if_neg h]
    unfold kvL
    rw [List.map_append]
    rfl
theorem length_kvL (ks : List L3) : (kvL ks).length = ks.length := List.length_map _
/-- the key tuples, each with its line -/
theorem keys_zip {H : Hp} : ∀ {ks : List L3} {bs : List Addr}, IsKeys H (kvL ks) bs → ∃ zs : List (Addr × L3), bs.map V.ref = zs.map (fun z => V.ref z.1) ∧ zs.map (·.2) = ks ∧ ∀ z ∈ zs, H z.1 = some (.tup [.int z.2.1, .int z.2.2.1, .int z.2.2.2])
  | [], _, .nil => ⟨[], rfl, rfl, fun z hz => by cases hz⟩
  | l :: ks, _, .cons (b := b) r t => by
    obtain ⟨zs, h1, h2, h3⟩ := keys_zip t
    refine ⟨(b, l) :: zs, ?_, ?_, fun z hz => ?_⟩
    · rw [List.map_cons, List.map_cons, h1]
    · rw [List.map_cons, h2]
    · rcases List.mem_cons.mp hz with e | hz
      · rw [e]
        exact r
      · exact h3 z hz
/-! ### told rows -/
/-- a row: its tuple, its line's tuple, its list of places; the line, the places -/
abbrev RowA := Addr × Addr × Addr × L3 × List Nat
def rowOf (r : RowA) : L3 × List Nat := (r.2.2.2.1, r.2.2.2.2)
def plV (l : List Nat) : List V := l.map fun k => V.int (k : Nat)
structure RowsL (H : Hp) (R : Addr) (rs : List RowA) : Prop where
  lst : H R = some (.lst (rs.map fun r => V.ref r.1))
  row : ∀ r ∈ rs, H r.1 = some (.tup [.ref r.2.1, .ref r.2.2.1])
  ln : ∀ r ∈ rs, H r.2.1 = some (.tup [.int r.2.2.2.1.1, .int r.2.2.2.1.2.1, .int r.2.2.2.1.2.2])
  pl : ∀ r ∈ rs, H r.2.2.1 = some (.lst (plV r.2.2.2.2))
theorem RowsL.same {H H' : Hp} {R : Addr} {rs : List RowA} (S : Same H H') (h : RowsL H R rs) : RowsL H' R rs :=
  ⟨S _ _ h.lst, fun r hr => S _ _ (h.row r hr), fun r hr => S _ _ (h.ln r hr), fun r hr => S _ _ (h.pl r hr)⟩
theorem RowsL.more {H : Hp} {R : Addr} {rs : List RowA} {r : RowA} (h : RowsL H R rs) (h1 : H r.1 = some (.tup [.ref r.2.1, .ref r.2.2.1])) (h2 : H r.2.1 = some (.tup [.int r.2.2.2.1.1, .int r.2.2.2.1.2.1, .int r.2.2.2.1.2.2]))
    (h3 : H r.2.2.1 = some (.lst (plV r.2.2.2.2))) (ne : r.2.2.1 ≠ R) (nes : ∀ r ∈ rs, r.2.2.1 ≠ R) : RowsL (upd H R (.lst ((rs.map fun r => V.ref r.1) ++ [.ref r.1]))) R (rs ++ [r]) := by
  have nt : ∀ a xs, H a = some (.tup xs) → a ≠ R := fun a xs e => ne_of e h.lst (by intro z; cases z)
  have split : ∀ x ∈ rs ++ [r], x ∈ rs ∨ x = r := fun x hx => by
    rcases List.mem_append.mp hx with hx | hx
    · exact .inl hx
    · exact .inr (by simpa using hx)
  refine ⟨by rw [upd_same, List.map_append]; rfl, fun x hx => ?_, fun x hx => ?_, fun x hx => ?_⟩
  · rcases split x hx with hx | rfl
    · rw [upd_ne (nt _ _ (h.row x hx))]; exact h.row x hx
    · rw [upd_ne (nt _ _ h1)]; exact h1
  · rcases split x hx with hx | rfl
    · rw [upd_ne (nt _ _ (h.ln x hx))]; exact h.ln x hx
    · rw [upd_ne (nt _ _ h2)]; exact h2
  · rcases split x hx with hx | rfl
    · rw [upd_ne (nes x hx)]; exact h.pl x hx
    · rw [upd_ne ne]; exact h3
theorem atI_map {α : Type} {f : α → V} {l : List α} {j : Nat} {x : α} (h : l[j]? = some x) : atI (l.map f) (j : Int) = some (f x) := by
  refine atI_nat ?_
  rw [List.getElem?_map, h]
  rfl
/-- the k-th of the points ks -/
theorem pts_at {ks : List (Addr × P2)} {k : Nat} (h : k < ks.length) : ∃ t, ks[k]? = some (t, ptAt (ptsOf ks) k) ∧ (t, ptAt (ptsOf ks) k) ∈ ks := by
  have e : ks[k]? = some ks[k] := List.getElem?_eq_getElem h
  have e2 : ptAt (ptsOf ks) k = ks[k].2 := by
    unfold ptAt ptsOf
    rw [List.getD_eq_getElem?_getD, List.getElem?_map, e]
    rfl
  refine ⟨ks[k].1, ?_, ?_⟩
  · rw [e2]; exact e
  · rw [e2]; exact List.getElem_mem h
/-! ### lists of points, of places as data -/
theorem ptDs_eqv : ∀ ps qs : List P2, PyData.eqvAll (ps.map ptD) (qs.map ptD) = decide (ps = qs)
  | [], [] => by simp [PyData.eqvAll]
  | [], q :: qs => by simp [PyData.eqvAll]
  | p :: ps, [] => by simp [PyData.eqvAll]
  | p :: ps, q :: qs => by
    have ih := ptDs_eqv ps qs
    simp only [List.map_cons, PyData.eqvAll, ptD_eqv, ih]
    by_cases h : p = q
    · by_cases h2 : ps = qs <;> simp [h, h2]
    · simp [h]
theorem pts_eqv (ps qs : List P2) : PyData.eqv (.list (ps.map ptD)) (.list (qs.map ptD)) = decide (ps = qs) := by
  show PyData.eqvAll _ _ = _
  exact ptDs_eqv ps qs
def natI (l : List Nat) : List Int := l.map Int.ofNat
theorem natI_inj {l m : List Nat} (h : natI l = natI m) : l = m := by
  refine (List.map_inj_right (f := Int.ofNat) fun x y e => ?_).mp h
  exact Int.ofNat.inj e
theorem plV_eq (l : List Nat) : plV l = (natI l).map V.int := by
  unfold plV natI
  rw [List.map_map]
  rfl
def plD (l : List Nat) : PyData := .list ((natI l).map .int)
theorem plD_lay (l : List Nat) : (plD l).canLay0 = true := by
  simp only [plD, PyData.canLay0]
  exact ints_lay _
theorem plD_depth (l : List Nat) : (plD l).depth = 1 := by
  have := ints_depth (natI l)
  simp only [plD, PyData.depth]
  omega
theorem plD_shaped (l : List Nat) : SeqAt.shaped (plD l) = true := by
  have h := plD_depth l
  show ((plD l).canLay0 && decide ((plD l).depth ≤ 64)) = true
  rw [Bool.and_eq_true]
  exact ⟨plD_lay l, decide_eq_true (by omega)⟩
theorem plD_eqv (l m : List Nat) : PyData.eqv (plD l) (plD m) = decide (l = m) := by
  show PyData.eqvAll _ _ = _
  rw [ints_eqv]
  by_cases h : l = m
  · rw [decide_eq_true h, decide_eq_true (by rw [h])]
  · rw [decide_eq_false h, decide_eq_false (fun z => h (natI_inj z))]
theorem pl_dp {K : PySem.W.Frag} {H : Hp} {a : Addr} {l : List Nat} (h : H a = some (.lst (plV l))) : Dp K H (.ref a) (plD l) := by
  rw [plV_eq] at h
  exact .lst (SqL.of h) (ints_dp _)
theorem plDs_lay : ∀ ls : List (List Nat), PyData.canLayAll0 (ls.map plD) = true
  | [] => by simp [PyData.canLayAll0]
  | l :: ls => by simp [PyData.canLayAll0, plD_lay l, plDs_lay ls]
theorem plDs_depth : ∀ ls : List (List Nat), PyData.depthAll (ls.map plD) ≤ 1
  | [] => by simp [PyData.depthAll]
  | l :: ls => by
    have h1 := plDs_depth ls
    have h2 := plD_depth l
    simp only [List.map_cons, PyData.depthAll]
    omega
theorem plDs_shaped (ls : List (List Nat)) : SeqAt.shaped (.list (ls.map plD)) = true := by
  have h1 := plDs_depth ls
  have h2 : PyData.depth (.list (ls.map plD)) ≤ 64 := by
    simp only [PyData.depth]
    omega
  show (PyData.canLay0 (.list (ls.map plD)) && decide (PyData.depth (.list (ls.map plD)) ≤ 64)) = true
  rw [Bool.and_eq_true]
  exact ⟨by simp only [PyData.canLay0]; exact plDs_lay ls, decide_eq_true h2⟩
theorem pls_any {l : List Nat} {ls : List (List Nat)} (h : l ∈ ls) : ((ls.map plD).any fun z => PyData.eqv z (plD l)) = true :=
  List.any_eq_true.mpr ⟨plD l, List.mem_map.mpr ⟨l, h, rfl⟩, by rw [plD_eqv]; exact decide_eq_true rfl⟩
theorem cut_one (x : V) (xs : List V) : cutV (x :: xs) (some 1) none = xs := by
  unfold cutV
  have h1 : HT.sIx (x :: xs).length 0 (some 1) = 1 := by
    have h := HT.sIx_nat (x :: xs).length 0 1
    have e : min 1 (x :: xs).length = 1 := by
      simp only [List.length_cons]
      omega
    rw [← e]
    exact h
  rw [h1, HT.sIx_none]
  show List.take ((x :: xs).length - 1) xs = xs
  exact List.take_of_length_le (by simp)
/-! ### the end, where the top holds a reckoned number -/
/-- as the layer's own end, but the facts about reckoned names are handed on -/
theorem walkX {l : PySem.W.OpenLaw} {k : Nat} {q : Program} {loose : List Str} {XQ : (Str → Option Value) → Heap → Prop} {YQ : World → Heap → Prop} {dr : DefRec} {KK : Params → PySem.W.Frag} {cx : CXT} {pr : PySem.W.Frag → Sp}
    (most : l.most = some 63) (nodef : dr.params.defaults = []) (room : Room k callerA) (into : ∀ (w : World) (h : Heap), YQ w h → (KK w.params).In h)
    (fn : ∀ (w : World) (mg : Str → Option Value) (fa : Addr) (h : Heap), (KK w.params).In h → h.Ns mainGlobals mg → XQ mg h → mg dr.name = some (.ref fa) →
      ∃ fd : FuncData, (∀ (s : Shared) (u : Value), BindsTo s fd ⟨[u], []⟩ [("script", u)]) ∧ ∀ base : Heap, (KK w.params).In base → base.Ns mainGlobals mg → FnOk l.prog w (KK w.params) mg base cx k fa fd ["script"] (pr (KK w.params)))
    (ends : ∀ (K : PySem.W.Frag) (H : Hp) (a : Addr) (ns : List Int), ns.length ≤ 63 → SqL K H a (ns.map V.int) → pr K [.ref a] H (fun v _ => v = .bl true) fun _ _ _ => False)
    (noexc : ∀ (H : Hp) (s : Shared) (e : Value) (s' : Shared), cx [] H s (fun _ _ _ => False) e s' → False) :
    PySem.W.WalkO q loose XQ YQ l.row.toRowW dr [] fun f vs => PySem.call f vs := by
  refine Att.attach_call most nodef fun w s0 s1 mg mb fa ob pm cd doc a vs ns Gr Yw hob hdt hcode hname hscript hints hlen hgens => ?_
  have inK := into w _ Yw
  obtain ⟨fd, binds, keeps⟩ := fn w mg fa _ inK Gr.T.g Gr.X hname
  refine law_call inK Gr.T.g Gr.T.b Gr.T.builtins Gr.T.nolimit hgens hscript hints (Nat.le_trans hlen (by decide)) room keeps binds (fun H _ hS => ?_) (fun H e s' => ?_)
  · exact ends (KK w.params) H a ns hlen hS
  · exact noexc H s1 e s'
theorem far_of {p : Program} {mg : Str → Option Value} {h : Heap} {r : List (Str × PySem.W.WData)} (x : PySem.W.XL p (("FARTHEST", .int 1000000) :: r) mg h) : ∃ t, mg "FARTHEST" = some (.int 1000000 t) := by
  obtain ⟨v, a, b⟩ := x.2.val _ List.mem_cons_self
  obtain ⟨t, rfl, _⟩ := PySem.W.readsW_int_inv b
  exact ⟨t, a⟩
end Tw
namespace Tw
/-! ### the pairs of places in the rows -/
def plAt (pl : List Nat) (k : Nat) : Nat := pl.getD k 0
def rowP (pl : List Nat) (k j : Nat) : List (Nat × Nat) := (List.range j).map fun j' => (plAt pl j', plAt pl k)
def pairsN (pl : List Nat) (k : Nat) : List (Nat × Nat) := (List.range k).flatMap fun k' => rowP pl k' k'
def pairsOf (pl : List Nat) : List (Nat × Nat) := pairsN pl pl.length
def allP (rs : List (L3 × List Nat)) : List (Nat × Nat) := rs.flatMap fun r => pairsOf r.2
theorem rowP_succ (pl : List Nat) (k j : Nat) : rowP pl k (j + 1) = rowP pl k j ++ [(plAt pl j, plAt pl k)] := by
  unfold rowP
  rw [List.range_succ, List.map_append]
  rfl
theorem pairsN_succ (pl : List Nat) (k : Nat) : pairsN pl (k + 1) = pairsN pl k ++ rowP pl k k := by
  unfold pairsN
  rw [List.range_succ, List.flatMap_append]
  simp
theorem length_rowP (pl : List Nat) (k j : Nat) : (rowP pl k j).length = j := by
  unfold rowP
  rw [List.length_map, List.length_range]
theorem length_pairsN (pl : List Nat) : ∀ k, 2 * (pairsN pl k).length = k * (k - 1)
  | 0 => rfl
  | k + 1 => by
    rw [pairsN_succ, List.length_append, length_rowP, Nat.mul_add, length_pairsN pl k]
    cases k with
    | zero => rfl
    | succ k =>
      show (k + 1) * k + 2 * (k + 1) = (k + 1 + 1) * (k + 1)
      grind
theorem allP_succ {rs : List (L3 × List Nat)} {i : Nat} {r : L3 × List Nat} (h : rs[i]? = some r) : allP (rs.take (i + 1)) = allP (rs.take i) ++ pairsOf r.2 := by
  unfold allP
  rw [List.take_add_one, h, List.flatMap_append]
  simp
theorem rowP_prefix (pl : List Nat) (k : Nat) : ∀ {j m : Nat}, j ≤ m → rowP pl k j <+: rowP pl k m := by
  intro j m h
  induction h with
  | refl => exact List.prefix_rfl
  | step _ ih => rw [rowP_succ]; exact ih.trans (List.prefix_append _ _)
theorem pairsN_prefix (pl : List Nat) : ∀ {j m : Nat}, j ≤ m → pairsN pl j <+: pairsN pl m := by
  intro j m h
  induction h with
  | refl => exact List.prefix_rfl
  | step _ ih => rw [pairsN_succ]; exact ih.trans (List.prefix_append _ _)
theorem allP_prefix (rs : List (L3 × List Nat)) (i : Nat) : allP (rs.take i) <+: allP rs := by
  refine ⟨allP (rs.drop i), ?_⟩
  unfold allP
  rw [← List.flatMap_append, List.take_append_drop]
/-- what has been gathered, with the next pair, stands at the head of all -/
theorem next_prefix {rs : List (L3 × List Nat)} {i k j : Nat} {r : L3 × List Nat} (h : rs[i]? = some r) (hk : k < r.2.length) (hj : j < k) :
    allP (rs.take i) ++ (pairsN r.2 k ++ rowP r.2 k j) ++ [(plAt r.2 j, plAt r.2 k)] <+: allP rs := by
  have h1 : pairsN r.2 k ++ rowP r.2 k j ++ [(plAt r.2 j, plAt r.2 k)] <+: pairsOf r.2 := by
    rw [List.append_assoc, ← rowP_succ]
    have h2 : pairsN r.2 k ++ rowP r.2 k (j + 1) <+: pairsN r.2 (k + 1) := by
      rw [pairsN_succ]
      exact (List.prefix_append_right_inj _).mpr (rowP_prefix _ _ hj)
    exact h2.trans (pairsN_prefix _ hk)
  have h3 : allP (rs.take i) ++ (pairsN r.2 k ++ rowP r.2 k j ++ [(plAt r.2 j, plAt r.2 k)]) <+: allP (rs.take (i + 1)) := by
    rw [allP_succ h]
    exact (List.prefix_append_right_inj _).mpr h1
  rw [List.append_assoc]
  exact h3.trans (allP_prefix rs (i + 1))
theorem mem_pairsN {pl : List Nat} {n : Nat} {x : Nat × Nat} : x ∈ pairsN pl n ↔ ∃ k, k < n ∧ ∃ j, j < k ∧ x = (plAt pl j, plAt pl k) := by
  unfold pairsN rowP
  constructor
  · intro h
    obtain ⟨k, hk, h⟩ := List.mem_flatMap.mp h
    obtain ⟨j, hj, e⟩ := List.mem_map.mp h
    exact ⟨k, List.mem_range.mp hk, j, List.mem_range.mp hj, e.symm⟩
  · rintro ⟨k, hk, j, hj, e⟩
    exact List.mem_flatMap.mpr ⟨k, List.mem_range.mpr hk, List.mem_map.mpr ⟨j, List.mem_range.mpr hj, e.symm⟩⟩
theorem plAt_get {pl : List Nat} {k : Nat} (h : k < pl.length) : plAt pl k = pl[k] := by
  unfold plAt
  rw [List.getD_eq_getElem?_getD, List.getElem?_eq_getElem h]
  rfl
theorem plAt_mem {pl : List Nat} {k : Nat} (h : k < pl.length) : plAt pl k ∈ pl := by
  rw [plAt_get h]; exact List.getElem_mem h
theorem rising_places (ps : List P2) (l : L3) : (places ps l).Pairwise (· < ·) := List.Pairwise.filter _ List.pairwise_lt_range
theorem plAt_lt {pl : List Nat} (h : pl.Pairwise (· < ·)) {j k : Nat} (hk : k < pl.length) (hj : j < k) : plAt pl j < plAt pl k := by
  rw [plAt_get (by omega), plAt_get hk]
  exact List.pairwise_iff_getElem.mp h j k (by omega) hk hj
theorem plAt_inj {pl : List Nat} (h : pl.Pairwise (· < ·)) {j k : Nat} (hj : j < pl.length) (hk : k < pl.length) (e : plAt pl j = plAt pl k) : j = k := by
  rcases Nat.lt_trichotomy j k with z | z | z
  · have := plAt_lt h hk z; omega
  · exact z
  · have := plAt_lt h hj z; omega
theorem nodup_pairsN {pl : List Nat} (h : pl.Pairwise (· < ·)) : (pairsOf pl).Nodup := by
  unfold pairsOf pairsN List.Nodup
  rw [List.pairwise_flatMap]
  refine ⟨fun k hk => ?_, ?_⟩
  · unfold rowP
    rw [List.pairwise_map]
    refine List.Pairwise.imp_of_mem ?_ List.nodup_range
    intro a b ha hb hab e
    have ha := List.mem_range.mp ha
    have hb := List.mem_range.mp hb
    have hk := List.mem_range.mp hk
    exact hab (plAt_inj h (by omega) (by omega) (congrArg Prod.fst e))
  · refine List.Pairwise.imp_of_mem ?_ List.nodup_range
    intro a b ha hb hab x hx y hy e
    have ha := List.mem_range.mp ha
    have hb := List.mem_range.mp hb
    obtain ⟨j, _, rfl⟩ := List.mem_map.mp hx
    obtain ⟨j', _, rfl⟩ := List.mem_map.mp hy
    exact hab (plAt_inj h ha hb (congrArg Prod.snd e))
theorem place_of {pl : List Nat} {x : Nat} (h : x ∈ pl) : ∃ k, k < pl.length ∧ plAt pl k = x := by
  obtain ⟨k, hk, e⟩ := List.getElem_of_mem h
  exact ⟨k, hk, by rw [plAt_get hk]; exact e⟩
/-- two places in the list of a line: it is the line through both -/
theorem line_of_places {ps : List P2} (hn : ps.Nodup) {le : L3 → L3 → Bool} {l : L3} (hl : l ∈ linesOf le ps) {x y : Nat} (hx : x ∈ places ps l) (hy : y ∈ places ps l) (hxy : x ≠ y) : lineOf (ptAt ps x) (ptAt ps y) = l := by
  obtain ⟨p, hp, q, hq, hpq, rfl⟩ := ((linesFor le hn).mem l).mp hl
  obtain ⟨x1, x2⟩ := mem_places.mp hx
  obtain ⟨y1, y2⟩ := mem_places.mp hy
  exact lineOf_unique hpq (ptAt_ne hn x1 y1 hxy) x2 y2
theorem mem_rows {le : L3 → L3 → Bool} {ps : List P2} {r : L3 × List Nat} (h : r ∈ rowsOf le ps) : r.1 ∈ linesOf le ps ∧ r.2 = places ps r.1 := by
  obtain ⟨l, hl, rfl⟩ := List.mem_map.mp h
  exact ⟨hl, rfl⟩
theorem nodup_rowsOf (le : L3 → L3 → Bool) {ps : List P2} (hn : ps.Nodup) : (rowsOf le ps).Nodup := by
  unfold rowsOf List.Nodup
  rw [List.pairwise_map]
  exact List.Pairwise.imp (fun h e => h (congrArg Prod.fst e)) (linesFor le hn).nd
theorem nodup_allP (le : L3 → L3 → Bool) {ps : List P2} (hn : ps.Nodup) : (allP (rowsOf le ps)).Nodup := by
  unfold allP List.Nodup
  rw [List.pairwise_flatMap]
  refine ⟨fun r hr => ?_, ?_⟩
  · obtain ⟨_, e⟩ := mem_rows hr
    rw [e]
    exact nodup_pairsN (rising_places ps r.1)
  · refine List.Pairwise.imp_of_mem ?_ (nodup_rowsOf le hn)
    intro r r' hr hr' hne x hx y hy e
    obtain ⟨h1, e1⟩ := mem_rows hr
    obtain ⟨h2, e2⟩ := mem_rows hr'
    apply hne
    have same : r.1 = r'.1 := by
      rw [e1] at hx
      rw [e2] at hy
      obtain ⟨k, hk, j, hj, rfl⟩ := mem_pairsN.mp hx
      obtain ⟨k', hk', j', hj', e3⟩ := mem_pairsN.mp hy
      rw [e3] at e
      have a1 := plAt_mem (by omega : j < (places ps r.1).length)
      have a2 := plAt_mem hk
      have b1 := plAt_mem (by omega : j' < (places ps r'.1).length)
      have b2 := plAt_mem hk'
      have ne1 := plAt_lt (rising_places ps r.1) hk hj
      have f1 := congrArg Prod.fst e
      have f2 := congrArg Prod.snd e
      dsimp only at f1 f2
      rw [← f1] at b1
      rw [← f2] at b2
      rw [← line_of_places hn h1 a1 a2 (by omega), ← line_of_places hn h2 b1 b2 (by omega)]
    refine Prod.ext same ?_
    rw [e1, e2, same]
theorem mem_allP {le : L3 → L3 → Bool} {ps : List P2} (hn : ps.Nodup) {x y : Nat} : (x, y) ∈ allP (rowsOf le ps) ↔ x < y ∧ y < ps.length := by
  unfold allP
  rw [List.mem_flatMap]
  constructor
  · rintro ⟨r, hr, h⟩
    obtain ⟨h1, e1⟩ := mem_rows hr
    rw [e1] at h
    obtain ⟨k, hk, j, hj, e⟩ := mem_pairsN.mp h
    injection e with ex ey
    subst ex ey
    exact ⟨plAt_lt (rising_places ps r.1) hk hj, (mem_places.mp (plAt_mem hk)).1⟩
  · rintro ⟨h1, h2⟩
    have hl : lnAt ps x y ∈ linesOf le ps := mem_linesOf.mpr ⟨y, h2, x, h1, rfl⟩
    have hne := ptAt_ne hn (by omega : x < ps.length) h2 (by omega)
    have mx : x ∈ places ps (lnAt ps x y) := mem_places.mpr ⟨by omega, on_left hne⟩
    have my : y ∈ places ps (lnAt ps x y) := mem_places.mpr ⟨h2, on_right hne⟩
    obtain ⟨j, hj, ej⟩ := place_of mx
    obtain ⟨k, hk, ek⟩ := place_of my
    have hjk : j < k := by
      rcases Nat.lt_trichotomy j k with z | z | z
      · exact z
      · rw [z, ek] at ej; omega
      · have := plAt_lt (rising_places ps (lnAt ps x y)) hj z
        omega
    exact ⟨_, List.mem_map.mpr ⟨_, hl, rfl⟩, mem_pairsN.mpr ⟨k, hk, j, hjk, by rw [ej, ek]⟩⟩
/-- as many pairs as there are -/
theorem length_allP (le : L3 → L3 → Bool) {ps : List P2} (hn : ps.Nodup) : 2 * (allP (rowsOf le ps)).length = ps.length * (ps.length - 1) := by
  have hr : (List.range ps.length).Pairwise (· < ·) := List.pairwise_lt_range
  have n2 := nodup_pairsN hr
  have n1 := nodup_allP le hn
  have e : ∀ {k}, k < ps.length → plAt (List.range ps.length) k = k := fun {k} h => by
    rw [plAt_get (by rw [List.length_range]; exact h), List.getElem_range]
  have s1 : ∀ x ∈ allP (rowsOf le ps), x ∈ pairsOf (List.range ps.length) := by
    rintro ⟨x, y⟩ h
    obtain ⟨h1, h2⟩ := (mem_allP hn).mp h
    refine mem_pairsN.mpr ⟨y, by rw [List.length_range]; exact h2, x, h1, ?_⟩
    rw [e (by omega), e h2]
  have s2 : ∀ x ∈ pairsOf (List.range ps.length), x ∈ allP (rowsOf le ps) := by
    intro x h
    obtain ⟨k, hk, j, hj, rfl⟩ := mem_pairsN.mp h
    rw [List.length_range] at hk
    rw [e hk, e (by omega)]
    exact (mem_allP hn).mpr ⟨hj, hk⟩
  have l1 := nodup_sub_length n1 s1
  have l2 := nodup_sub_length n2 s2
  have l3 := length_pairsN (List.range ps.length) ps.length
  have l4 : pairsOf (List.range ps.length) = pairsN (List.range ps.length) ps.length := by
    unfold pairsOf
    rw [List.length_range]
  rw [l4] at l1 l2
  omega
end Tw
namespace Tw
/-! ### one line, or as many as points -/
theorem lines_one {le : L3 → L3 → Bool} {ps : List P2} (hn : ps.Nodup) (h2 : 2 ≤ ps.length) (h1 : (linesOf le ps).length = 1) : linesOf le ps = [lnAt ps 0 1] ∧ ∀ k, k < ps.length → On (lnAt ps 0 1) (ptAt ps k) := by
  have h01 : lnAt ps 0 1 ∈ linesOf le ps := mem_linesOf.mpr ⟨1, by omega, 0, by omega, rfl⟩
  obtain ⟨l, hl⟩ := List.length_eq_one_iff.mp h1
  rw [hl] at h01 ⊢
  have e01 : lnAt ps 0 1 = l := by simpa using h01
  refine ⟨by rw [e01], fun k hk => ?_⟩
  by_cases h0 : k = 0
  · rw [h0]
    exact on_left (ptAt_ne hn (by omega) (by omega) (by omega))
  · have h0k : lnAt ps 0 k ∈ linesOf le ps := mem_linesOf.mpr ⟨k, hk, 0, by omega, rfl⟩
    rw [hl] at h0k
    have e : lnAt ps 0 k = l := by simpa using h0k
    rw [e01, ← e]
    exact on_right (ptAt_ne hn (by omega) hk (by omega))
theorem lines_col {le : L3 → L3 → Bool} {ps : List P2} (hn : ps.Nodup) {l : L3} (hl : l ∈ linesOf le ps) (h : ∀ k, k < ps.length → On l (ptAt ps k)) : linesOf le ps = [l] := by
  have all : ∀ m ∈ linesOf le ps, m = l := by
    intro m hm
    obtain ⟨k, hk, j, hj, rfl⟩ := mem_linesOf.mp hm
    exact line_of_places hn hl (mem_places.mpr ⟨by omega, h j (by omega)⟩) (mem_places.mpr ⟨hk, h k hk⟩) (by omega)
  have nd := (linesFor le hn).nd
  cases e : linesOf le ps with
  | nil => rw [e] at hl; cases hl
  | cons a r =>
    rw [e] at all nd
    have ea := all a List.mem_cons_self
    cases r with
    | nil => rw [ea]
    | cons b r =>
      have eb := all b (List.mem_cons_of_mem _ List.mem_cons_self)
      exact absurd (by rw [ea, eb]; exact List.mem_cons_self) (List.nodup_cons.mp nd).1
theorem not_col {le : L3 → L3 → Bool} {ps : List P2} (hn : ps.Nodup) (h2 : 2 ≤ ps.length) (h1 : (linesOf le ps).length ≠ 1) : ¬ Col ps := by
  intro c
  have h01 : lnAt ps 0 1 ∈ linesOf le ps := mem_linesOf.mpr ⟨1, by omega, 0, by omega, rfl⟩
  have := lines_col hn h01 fun k hk => c _ (ptAt_mem (by omega)) _ (ptAt_mem (by omega)) _ (ptAt_mem hk) (ptAt_ne hn (by omega) (by omega) (by omega))
  rw [this] at h1
  exact h1 rfl
theorem lines_many {le : L3 → L3 → Bool} {ps : List P2} (hn : ps.Nodup) (h2 : 2 ≤ ps.length) (h1 : (linesOf le ps).length ≠ 1) : ps.length ≤ (linesOf le ps).length :=
  as_many ps.length ps _ rfl hn (linesFor le hn) (not_col hn h2 h1)
theorem places_all {ps : List P2} {l : L3} : (places ps l).length = ps.length ↔ ∀ k, k < ps.length → On l (ptAt ps k) := by
  constructor
  · intro h k hk
    by_cases o : On l (ptAt ps k)
    · exact o
    · exfalso
      have nd : (k :: places ps l).Nodup := List.nodup_cons.mpr ⟨fun z => o (mem_places.mp z).2, nodup_places ps l⟩
      have := nodup_sub_length nd (B := List.range ps.length) (fun x hx => by
        rcases List.mem_cons.mp hx with e | hx
        · rw [e]; exact List.mem_range.mpr hk
        · exact List.mem_range.mpr (mem_places.mp hx).1)
      rw [List.length_range, List.length_cons] at this
      omega
  · intro h
    have h1 := length_placesN ps l ps.length
    have h2 := nodup_sub_length (List.nodup_range (n := ps.length)) (B := places ps l) (fun x hx => mem_places.mpr ⟨List.mem_range.mp hx, h x (List.mem_range.mp hx)⟩)
    rw [List.length_range] at h2
    unfold places at h2 ⊢
    omega
theorem places_just {ps : List P2} {l : L3} (h0 : 0 < ps.length) (h : (places ps l).length = ps.length - 1) : ∃ k, k < ps.length ∧ ¬ On l (ptAt ps k) ∧ ∀ j, j < ps.length → j ≠ k → On l (ptAt ps j) := by
  have : ∃ k, k < ps.length ∧ ¬ On l (ptAt ps k) := by
    apply Classical.byContradiction
    intro z
    have := places_all.mpr fun k hk => Classical.byContradiction fun o => z ⟨k, hk, o⟩
    omega
  obtain ⟨k, hk, o⟩ := this
  refine ⟨k, hk, o, fun j hj hjk => ?_⟩
  apply Classical.byContradiction
  intro oj
  have nd : (j :: k :: places ps l).Nodup := by
    refine List.nodup_cons.mpr ⟨fun z => ?_, List.nodup_cons.mpr ⟨fun z => o (mem_places.mp z).2, nodup_places ps l⟩⟩
    rcases List.mem_cons.mp z with e | z
    · exact hjk e
    · exact oj (mem_places.mp z).2
  have := nodup_sub_length nd (B := List.range ps.length) (fun x hx => by
    rcases List.mem_cons.mp hx with e | hx
    · rw [e]; exact List.mem_range.mpr hj
    · rcases List.mem_cons.mp hx with e | hx
      · rw [e]; exact List.mem_range.mpr hk
      · exact List.mem_range.mpr (mem_places.mp hx).1)
  rw [List.length_range, List.length_cons, List.length_cons] at this
  omega
theorem lines_just {le : L3 → L3 → Bool} {ps : List P2} (hn : ps.Nodup) (h0 : 0 < ps.length) {l : L3} (hl : l ∈ linesOf le ps) (h : (places ps l).length = ps.length - 1) : (linesOf le ps).length = ps.length := by
  obtain ⟨k, hk, o, all⟩ := places_just h0 h
  refine just_as_many hn (linesFor le hn) (ptAt_mem hk) hl o fun x hx hne => ?_
  obtain ⟨j, hj, rfl⟩ := ptAt_of_mem hx
  exact all j hj fun e => hne (by rw [e])
/-- the line through two points on which no other lies: just two places -/
theorem two_places {ps : List P2} (hn : ps.Nodup) {p q : P2} (hp : p ∈ ps) (hq : q ∈ ps) (hpq : p ≠ q) (two : ∀ x ∈ ps, On (lineOf p q) x → x = p ∨ x = q) : (places ps (lineOf p q)).length = 2 := by
  obtain ⟨i, hi, rfl⟩ := ptAt_of_mem hp
  obtain ⟨j, hj, rfl⟩ := ptAt_of_mem hq
  have hij : i ≠ j := fun e => hpq (by rw [e])
  have inj : ∀ {a b}, a < ps.length → b < ps.length → ptAt ps a = ptAt ps b → a = b := fun {a b} ha hb e => by
    by_cases h : a = b
    · exact h
    · exact absurd e (ptAt_ne hn ha hb h)
  have h1 := nodup_sub_length (nodup_places ps (lineOf (ptAt ps i) (ptAt ps j))) (B := [i, j]) (fun x hx => by
    obtain ⟨x1, x2⟩ := mem_places.mp hx
    rcases two _ (ptAt_mem x1) x2 with e | e
    · rw [inj x1 hi e]; exact List.mem_cons_self
    · rw [inj x1 hj e]; exact List.mem_cons_of_mem _ List.mem_cons_self)
  have nd : ([i, j] : List Nat).Nodup := by simp [hij]
  have h2 := nodup_sub_length nd (B := places ps (lineOf (ptAt ps i) (ptAt ps j))) (fun x hx => by
    rcases List.mem_cons.mp hx with e | hx
    · rw [e]; exact mem_places.mpr ⟨hi, on_left hpq⟩
    · have e : x = j := by simpa using hx
      rw [e]; exact mem_places.mpr ⟨hj, on_right hpq⟩)
  simp only [List.length_cons, List.length_nil] at h1 h2
  omega
theorem two_exists {le : L3 → L3 → Bool} {ps : List P2} (hn : ps.Nodup) (h2 : 2 ≤ ps.length) (h1 : (linesOf le ps).length ≠ 1) : ∃ l ∈ linesOf le ps, (places ps l).length = 2 := by
  obtain ⟨p, hp, q, hq, hpq, two⟩ := sylvester (not_col hn h2 h1)
  exact ⟨lineOf p q, ((linesFor le hn).mem _).mpr ⟨p, hp, q, hq, hpq, rfl⟩, two_places hn hp hq hpq two⟩

/-! ### gaps -/
def gapO (l : L3) (p : P2) : P2 := frac (much l p * much l p) (nn l)
/-- a gap is less than another -/
def Less (g g' : P2) : Prop := g.1 * g'.2 < g'.1 * g.2
instance (g g' : P2) : Decidable (Less g g') := by unfold Less; infer_instance
theorem gap_spec {l : L3} (p : P2) (nl : l.1 ≠ 0 ∨ l.2.1 ≠ 0) : ∃ d, 0 < d ∧ much l p * much l p = d * (gapO l p).1 ∧ nn l = d * (gapO l p).2 ∧ 0 < (gapO l p).2 ∧ cm (gapO l p).1 (gapO l p).2 = 1 := by
  have np := nn_pos nl
  obtain ⟨d, hd, h1, h2, h3, h4⟩ := frac_spec (much l p * much l p) (b := nn l) (by omega)
  refine ⟨d, ?_, h1, h2, h3, h4⟩
  rcases Int.lt_or_le 0 d with q | q
  · exact q
  · exfalso
    have := Int.mul_nonneg (show 0 ≤ -d by omega) (Int.le_of_lt h3)
    rw [Int.neg_mul] at this
    have h2' : nn l = d * (frac (much l p * much l p) (nn l)).2 := h2
    omega
theorem gap_pos {l : L3} {p : P2} (nl : l.1 ≠ 0 ∨ l.2.1 ≠ 0) : 0 < (gapO l p).1 ↔ ¬ On l p := by
  obtain ⟨d, hd, h1, _⟩ := gap_spec p nl
  rw [on_much]
  constructor
  · intro h e
    rw [e] at h1
    have := Int.mul_pos hd h
    rw [← h1] at this
    exact absurd this (by decide)
  · intro h
    have := sq_pos h
    rw [h1] at this
    exact Int.pos_of_mul_pos_left (by rw [Int.mul_comm]; exact this) hd
theorem gap_less {l m : L3} {p q : P2} (nl : l.1 ≠ 0 ∨ l.2.1 ≠ 0) (nm : m.1 ≠ 0 ∨ m.2.1 ≠ 0) : Less (gapO l p) (gapO m q) ↔ much l p * much l p * nn m < much m q * much m q * nn l := by
  obtain ⟨d, hd, h1, h2, _⟩ := gap_spec p nl
  obtain ⟨e, he, k1, k2, _⟩ := gap_spec q nm
  unfold Less
  rw [h1, h2, k1, k2]
  generalize (gapO l p).1 = a
  generalize (gapO l p).2 = b
  generalize (gapO m q).1 = a'
  generalize (gapO m q).2 = b'
  have e1 : d * a * (e * b') = d * e * (a * b') := by grind
  have e2 : e * a' * (d * b) = d * e * (a' * b) := by grind
  rw [e1, e2]
  have hde := Int.mul_pos hd he
  constructor
  · intro h; exact Int.mul_lt_mul_of_pos_left h hde
  · intro h; exact Int.lt_of_mul_lt_mul_left h (Int.le_of_lt hde)
/-- two fractions in lowest terms, neither less -/
theorem frac_same {g g' : P2} (h : 0 < g.2) (h' : 0 < g'.2) (c : cm g.1 g.2 = 1) (c' : cm g'.1 g'.2 = 1) (n1 : ¬ Less g g') (n2 : ¬ Less g' g) : g = g' := by
  unfold Less at n1 n2
  have e : g.1 * g'.2 = g'.1 * g.2 := by omega
  have cg : Int.gcd g.1 g.2 = 1 := by
    have : ((Int.gcd g.1 g.2 : Nat) : Int) = 1 := c
    omega
  have cg' : Int.gcd g'.1 g'.2 = 1 := by
    have : ((Int.gcd g'.1 g'.2 : Nat) : Int) = 1 := c'
    omega
  have d1 : g.2 ∣ g'.2 := by
    have h1 : g.2 ∣ g.1 * g'.2 := by rw [e]; exact Int.dvd_mul_left _ _
    have h2 := (Int.dvd_gcd_mul_iff_dvd_mul (k := g.2) (n := g.1) (m := g'.2)).mpr h1
    rw [Int.gcd_comm, cg] at h2
    simpa using h2
  have d2 : g'.2 ∣ g.2 := by
    have h1 : g'.2 ∣ g'.1 * g.2 := by rw [← e]; exact Int.dvd_mul_left _ _
    have h2 := (Int.dvd_gcd_mul_iff_dvd_mul (k := g'.2) (n := g'.1) (m := g.2)).mpr h1
    rw [Int.gcd_comm, cg'] at h2
    simpa using h2
  have e2 : g.2 = g'.2 := by
    have l1 := Int.le_of_dvd h' d1
    have l2 := Int.le_of_dvd h d2
    omega
  refine Prod.ext ?_ e2
  rw [← e2] at e
  exact Int.eq_of_mul_eq_mul_right (by omega) e
theorem gap_same {l m : L3} {p q : P2} (nl : l.1 ≠ 0 ∨ l.2.1 ≠ 0) (nm : m.1 ≠ 0 ∨ m.2.1 ≠ 0) (n1 : ¬ Less (gapO l p) (gapO m q)) (n2 : ¬ Less (gapO m q) (gapO l p)) : gapO l p = gapO m q := by
  obtain ⟨_, _, _, _, h1, h2⟩ := gap_spec p nl
  obtain ⟨_, _, _, _, k1, k2⟩ := gap_spec q nm
  exact frac_same h1 k1 h2 k2 n1 n2
theorem less_trans {g g' g'' : P2} (h : 0 < g.2) (h' : 0 < g'.2) (h'' : 0 < g''.2) (a : ¬ Less g' g) (b : Less g'' g) : ¬ Less g' g'' := by
  unfold Less at *
  intro c
  apply a
  -- g' < g'' < g
  have s1 : g'.1 * g''.2 * g.2 < g''.1 * g'.2 * g.2 := Int.mul_lt_mul_of_pos_right c h
  have s2 : g''.1 * g.2 * g'.2 < g.1 * g''.2 * g'.2 := Int.mul_lt_mul_of_pos_right b h'
  have s3 : (g'.1 * g.2) * g''.2 < (g.1 * g'.2) * g''.2 := by
    have e1 : g'.1 * g''.2 * g.2 = g'.1 * g.2 * g''.2 := by grind
    have e2 : g''.1 * g'.2 * g.2 = g''.1 * g.2 * g'.2 := by grind
    have e3 : g.1 * g''.2 * g'.2 = g.1 * g'.2 * g''.2 := by grind
    omega
  exact Int.lt_of_mul_lt_mul_right s3 (Int.le_of_lt h'')
/-- what is known of the best so far: of all pairs that were looked at none has a lesser gap above nought -/
def Best (ps : List P2) (done : L3 → Nat → Prop) : Option (Nat × L3) → Prop
  | none => ∀ l k, done l k → On l (ptAt ps k)
  | some (k, l) => done l k ∧ ¬ On l (ptAt ps k) ∧ ∀ m j, done m j → ¬ On m (ptAt ps j) → ¬ Less (gapO m (ptAt ps j)) (gapO l (ptAt ps k))
/-- the nearest pair's line has just two places -/
theorem nearest_two {le : L3 → L3 → Bool} {ps : List P2} (hn : ps.Nodup) {l : L3} {k : Nat} (hl : l ∈ linesOf le ps) (hk : k < ps.length) (o : ¬ On l (ptAt ps k))
    (least : ∀ m ∈ linesOf le ps, ∀ j, j < ps.length → ¬ On m (ptAt ps j) → ¬ Less (gapO m (ptAt ps j)) (gapO l (ptAt ps k))) : (places ps l).length = 2 := by
  obtain ⟨p, hp, q, hq, hpq, rfl⟩ := ((linesFor le hn).mem l).mp hl
  refine two_places hn hp hq hpq fun x hx ox => ?_
  have := kelly_two (S := ps) hpq (ptAt_mem hk) o (fun t ht u hu z hz htu oz => by
    obtain ⟨j, hj, rfl⟩ := ptAt_of_mem hz
    have h1 := least (lineOf t u) (((linesFor le hn).mem _).mpr ⟨t, ht, u, hu, htu, rfl⟩) j hj oz
    rw [gap_less (lineOf_ne htu) (lineOf_ne hpq)] at h1
    exact h1) hx hp hq ox (on_left hpq) (on_right hpq)
  rcases this with e | e | e
  · exact .inl e
  · exact absurd e hpq
  · exact .inr e
end Tw
namespace Tw
/-! ### looking for the nearest pair -/
def NZ (l : L3) : Prop := l.1 ≠ 0 ∨ l.2.1 ≠ 0
/-- the pairs that were looked at: of the first i lines all, of the i-th the first k -/
def DoneAt (ls : List L3) (n i k : Nat) (l : L3) (j : Nat) : Prop := (∃ i', i' < i ∧ ls[i']? = some l ∧ j < n) ∨ (ls[i]? = some l ∧ j < k)
theorem less_irrefl (g : P2) : ¬ Less g g := Int.lt_irrefl _
theorem gap_den {l : L3} (p : P2) (nl : NZ l) : 0 < (gapO l p).2 := by
  obtain ⟨_, _, _, _, h, _⟩ := gap_spec p nl
  exact h
theorem best_mono {ps : List P2} {d d' : L3 → Nat → Prop} (e : ∀ l j, d l j ↔ d' l j) {o : Option (Nat × L3)} (h : Best ps d o) : Best ps d' o := by
  match o, h with
  | none, h => exact fun l k hk => h l k ((e l k).mpr hk)
  | some (k, l), ⟨h1, h2, h3⟩ => exact ⟨(e l k).mp h1, h2, fun m j hm => h3 m j ((e m j).mpr hm)⟩
theorem best_take {ps : List P2} {d : L3 → Nat → Prop} {o : Option (Nat × L3)} {l : L3} {k : Nat} (nz : ∀ m j, d m j → NZ m) (nl : NZ l) (h : Best ps d o) (hp : 0 < (gapO l (ptAt ps k)).1)
    (hb : ∀ k0 l0, o = some (k0, l0) → Less (gapO l (ptAt ps k)) (gapO l0 (ptAt ps k0))) : Best ps (fun m j => d m j ∨ (m = l ∧ j = k)) (some (k, l)) := by
  refine ⟨.inr ⟨rfl, rfl⟩, (gap_pos nl).mp hp, fun m j hm om => ?_⟩
  rcases hm with hm | ⟨rfl, rfl⟩
  · match o, h, hb with
    | none, h, _ => exact absurd (h m j hm) om
    | some (k0, l0), ⟨h1, h2, h3⟩, hb => exact less_trans (gap_den _ (nz _ _ h1)) (gap_den _ (nz _ _ hm)) (gap_den _ nl) (h3 m j hm om) (hb k0 l0 rfl)
  · exact less_irrefl _
theorem best_skip {ps : List P2} {d : L3 → Nat → Prop} {o : Option (Nat × L3)} {l : L3} {k : Nat} (nl : NZ l) (h : Best ps d o)
    (hb : ¬ 0 < (gapO l (ptAt ps k)).1 ∨ ∃ k0 l0, o = some (k0, l0) ∧ ¬ Less (gapO l (ptAt ps k)) (gapO l0 (ptAt ps k0))) : Best ps (fun m j => d m j ∨ (m = l ∧ j = k)) o := by
  match o, h with
  | none, h =>
    rintro m j (hm | ⟨rfl, rfl⟩)
    · exact h m j hm
    · rcases hb with hb | ⟨k0, l0, e, _⟩
      · exact Classical.byContradiction fun z => hb ((gap_pos nl).mpr z)
      · cases e
  | some (k1, l1), ⟨h1, h2, h3⟩ =>
    refine ⟨.inl h1, h2, fun m j hm om => ?_⟩
    rcases hm with hm | ⟨rfl, rfl⟩
    · exact h3 m j hm om
    · rcases hb with hb | ⟨k0, l0, e, hl⟩
      · exact absurd ((gap_pos nl).mpr om) hb
      · cases e
        exact hl
theorem done_next {ls : List L3} {n i k : Nat} {l : L3} (hl : ls[i]? = some l) (m : L3) (j : Nat) : (DoneAt ls n i k m j ∨ (m = l ∧ j = k)) ↔ DoneAt ls n i (k + 1) m j := by
  unfold DoneAt
  constructor
  · rintro ((h | ⟨h1, h2⟩) | ⟨rfl, rfl⟩)
    · exact .inl h
    · exact .inr ⟨h1, by omega⟩
    · exact .inr ⟨hl, by omega⟩
  · rintro (h | ⟨h1, h2⟩)
    · exact .inl (.inl h)
    · by_cases e : j = k
      · rw [hl] at h1
        exact .inr ⟨(Option.some.inj h1).symm, e⟩
      · exact .inl (.inr ⟨h1, by omega⟩)
theorem done_row {ls : List L3} {n i : Nat} (m : L3) (j : Nat) : DoneAt ls n i n m j ↔ DoneAt ls n (i + 1) 0 m j := by
  unfold DoneAt
  constructor
  · rintro (⟨i', h1, h2, h3⟩ | ⟨h1, h2⟩)
    · exact .inl ⟨i', by omega, h2, h3⟩
    · exact .inl ⟨i, by omega, h1, h2⟩
  · rintro (⟨i', h1, h2, h3⟩ | ⟨h1, h2⟩)
    · by_cases e : i' = i
      · rw [e] at h2
        exact .inr ⟨h2, h3⟩
      · exact .inl ⟨i', by omega, h2, h3⟩
    · omega
theorem done_none {ls : List L3} {n : Nat} (m : L3) (j : Nat) : ¬ DoneAt ls n 0 0 m j := by
  rintro (⟨i', h1, _⟩ | ⟨_, h2⟩)
  · omega
  · omega
theorem done_all {ls : List L3} {n : Nat} (m : L3) (j : Nat) : DoneAt ls n ls.length 0 m j ↔ (m ∈ ls ∧ j < n) := by
  constructor
  · rintro (⟨i', h1, h2, h3⟩ | ⟨_, h2⟩)
    · exact ⟨List.mem_of_getElem? h2, h3⟩
    · omega
  · rintro ⟨h1, h2⟩
    obtain ⟨i, hi, e⟩ := List.getElem_of_mem h1
    exact .inl ⟨i, hi, by rw [List.getElem?_eq_getElem hi, e], h2⟩
theorem done_nz {ls : List L3} {n i k : Nat} (nz : ∀ l ∈ ls, NZ l) (m : L3) (j : Nat) (h : DoneAt ls n i k m j) : NZ m := by
  rcases h with ⟨i', _, h2, _⟩ | ⟨h1, _⟩
  · exact nz _ (List.mem_of_getElem? h2)
  · exact nz _ (List.mem_of_getElem? h1)
/-- all pairs looked at -/
def AllP (ls : List L3) (n : Nat) (l : L3) (j : Nat) : Prop := l ∈ ls ∧ j < n
/-- two that looked for it found the same gap -/
theorem best_same {ps : List P2} {ls : List L3} (nz : ∀ l ∈ ls, NZ l) {k k' : Nat} {l l' : L3} (h : Best ps (AllP ls ps.length) (some (k, l))) (h' : Best ps (AllP ls ps.length) (some (k', l'))) : gapO l (ptAt ps k) = gapO l' (ptAt ps k') := by
  obtain ⟨⟨a1, a2⟩, b, c⟩ := h
  obtain ⟨⟨a1', a2'⟩, b', c'⟩ := h'
  exact gap_same (nz _ a1) (nz _ a1') (c' _ _ ⟨a1, a2⟩ b) (c _ _ ⟨a1', a2'⟩ b')
theorem best_none_same {ps : List P2} {ls : List L3} {o : Option (Nat × L3)} (h : Best ps (AllP ls ps.length) none) (h' : Best ps (AllP ls ps.length) o) : o = none := by
  match o, h' with
  | none, _ => rfl
  | some (k, l), ⟨h1, h2, _⟩ => exact absurd (h l k h1) h2
theorem lines_nz {le : L3 → L3 → Bool} {ps : List P2} (hn : ps.Nodup) {l : L3} (hl : l ∈ linesOf le ps) : NZ l := by
  obtain ⟨k, hk, j, hj, rfl⟩ := mem_linesOf.mp hl
  exact lineOf_ne (ptAt_ne hn (by omega) hk (by omega))
end Tw
namespace Tw
open PySem PySem.Spec PyProof.Rows L2
/-! ### the dict of pairs -/
def encP (x : Nat × Nat) : List Key := [.inl (x.1 : Nat), .inl (x.2 : Nat)]
theorem encP_inj {x y : Nat × Nat} (h : encP x = encP y) : x = y := by
  injection h with h1 h
  injection h with h2 _
  injection h1 with h1
  injection h2 with h2
  exact Prod.ext (Int.ofNat.inj h1) (Int.ofNat.inj h2)
def kvP (l : List (Nat × Nat)) : List (List Key × V) := l.map fun x => (encP x, V.bl true)
theorem kvP_put {l : List (Nat × Nat)} {x : Nat × Nat} (h : x ∉ l) : putK (kvP l) (encP x) (.bl true) = kvP (l ++ [x]) := by
  unfold putK
  have e : ((kvP l).any fun kv => decide (kv.1 = encP x)) = false := by
    rw [List.any_eq_false]
    rintro ⟨k, v⟩ hkv hd
    obtain ⟨y, hy, e⟩ := List.mem_map.mp hkv
    have e1 : k = encP y := (congrArg Prod.fst e).symm
    have e2 : k = encP x := of_decide_eq_true hd
    exact h (by rw [← encP_inj (e1.symm.trans e2)]; exact hy)
  rw [if_neg (by rw [e]; decide)]
  unfold kvP
  rw [List.map_append]
  rfl
/-! ### in, for lists of places -/
theorem inV_pl (k : Nat) (l : List Nat) : inV (.int (k : Int)) (plV l) = decide (k ∈ l) := by
  induction l with
  | nil => simp [inV, plV]
  | cons n l ih =>
    have e : inV (.int (k : Int)) (plV (n :: l)) = (eqV (.int (n : Int)) (.int (k : Int)) || inV (.int (k : Int)) (plV l)) := rfl
    rw [e, ih]
    by_cases h : n = k
    · subst h
      simp [eqV]
    · have h1 : ¬ k = n := fun z => h z.symm
      have h2 : ¬ (n : Int) = (k : Int) := by omega
      by_cases h3 : k ∈ l <;> simp [eqV, h1, h2, h3]
theorem flat_pl (l : List Nat) : (plV l).all flatV = true := by
  unfold plV
  rw [List.all_map]
  exact List.all_eq_true.mpr fun x _ => rfl
theorem plV_at {l : List Nat} {k : Nat} (h : k < l.length) : (plV l)[k]? = some (.int (plAt l k : Nat)) := by
  unfold plV
  rw [List.getElem?_map, List.getElem?_eq_getElem h, plAt_get h]
  rfl
theorem plV_len (l : List Nat) : (plV l).length = l.length := List.length_map _
end Tw
namespace Tw
open PySem PySem.Spec PyProof.Rows L2 TL
/-! ### numbers as texts -/
def tS (n : Int) : Str := Str.ofString (toString n)
theorem tl_tS_nat (n : Nat) : tl (tS (n : Int)) = numL n := tl_num n
theorem tl_tS_neg (n : Nat) : tl (tS (Int.negSucc n)) = 45 :: numL (n + 1) := by
  have e : toString (Int.negSucc n) = "-" ++ toString (((n + 1 : Nat)) : Int) := rfl
  show tl (Str.ofString (toString (Int.negSucc n))) = _
  rw [e, tl_ofString, String.toList_append, List.map_append, ← tl_ofString (toString (((n + 1 : Nat)) : Int)), tl_num]
  rfl
theorem numL_head {n : Nat} (h : n ≠ 0) : (numL n).head? ≠ some 48 := by
  induction n using Nat.strongRecOn with
  | _ n ih =>
    by_cases h10 : n < 10
    · rw [numL_lt h10]
      simp
      omega
    · rw [numL_step (by omega)]
      have := ih (n / 10) (by omega) (by omega)
      have ne := numL_ne (n / 10)
      cases e : numL (n / 10) with
      | nil => exact absurd e ne
      | cons a l =>
        rw [e] at this
        exact this
def figL (w : List Nat) : List Nat := if w.take 1 = [45] then w.drop 1 else w
structure GoodL (w : List Nat) : Prop where
  one : 1 ≤ (figL w).length
  most : (figL w).length ≤ 7
  nought : (figL w).head? = some 48 → w = [48]
  dig : NumText.AllDigits (figL w)
def valL (w : List Nat) : Int := if w.take 1 = [45] then -((NumText.digitsVal (figL w) : Nat) : Int) else ((NumText.digitsVal (figL w) : Nat) : Int)
theorem take1_num (n : Nat) : (numL n).take 1 ≠ [45] := fun e => by
  cases h : numL n with
  | nil => exact numL_ne n h
  | cons a l =>
    rw [h] at e
    have ea : a = 45 := by simpa using e
    have := numL_free (n := n) (s := 45) (.inl (by decide))
    rw [h, ea] at this
    exact this List.mem_cons_self
theorem good_nat {n : Nat} (h : n ≤ 1000000) : GoodL (numL n) ∧ valL (numL n) = (n : Int) := by
  have e : figL (numL n) = numL n := if_neg (take1_num n)
  refine ⟨⟨?_, ?_, ?_, ?_⟩, ?_⟩
  · rw [e]
    exact List.length_pos_iff.mpr (numL_ne n)
  · rw [e]
    exact numL_len (by decide) (by omega)
  · rw [e]
    intro h0
    by_cases hn : n = 0
    · rw [hn]
      rfl
    · exact absurd h0 (numL_head hn)
  · rw [e]
    exact numL_digits n
  · unfold valL
    rw [if_neg (take1_num n), e, numL_val]
theorem good_neg {n : Nat} (h : n + 1 ≤ 1000000) : GoodL (45 :: numL (n + 1)) ∧ valL (45 :: numL (n + 1)) = Int.negSucc n := by
  have t : (45 :: numL (n + 1)).take 1 = [45] := rfl
  have e : figL (45 :: numL (n + 1)) = numL (n + 1) := if_pos t
  refine ⟨⟨?_, ?_, ?_, ?_⟩, ?_⟩
  · rw [e]
    exact List.length_pos_iff.mpr (numL_ne _)
  · rw [e]
    exact numL_len (by decide) (by omega)
  · rw [e]
    intro h0
    exact absurd h0 (numL_head (by omega))
  · rw [e]
    exact numL_digits _
  · unfold valL
    rw [if_pos t, e, numL_val]
    rfl
theorem good_tS {n : Int} (h : -1000000 ≤ n ∧ n ≤ 1000000) : GoodL (tl (tS n)) ∧ valL (tl (tS n)) = n := by
  cases n with
  | ofNat k =>
    have := good_nat (n := k) (by have h2 : (k : Int) ≤ 1000000 := h.2; omega)
    rw [← tl_tS_nat k] at this
    exact this
  | negSucc k =>
    rw [tl_tS_neg]
    exact good_neg (by omega)
theorem tS_free {n : Int} {s : Nat} (h : s < 45 ∨ 57 < s) : s ∉ tl (tS n) := by
  cases n with
  | ofNat k => exact (tl_tS_nat k) ▸ numL_free (by omega)
  | negSucc k =>
    rw [tl_tS_neg]
    intro hm
    rcases List.mem_cons.mp hm with e | hm
    · omega
    · exact numL_free (by omega) hm
theorem tS_len {n : Int} (h : -1000000 ≤ n ∧ n ≤ 1000000) : (tS n).length ≤ 8 := by
  rw [len_tl]
  cases n with
  | ofNat k =>
    have := numL_len (n := k) (k := 7) (by decide) (by have h2 : (k : Int) ≤ 1000000 := h.2; omega)
    have e : tl (tS (Int.ofNat k)) = numL k := tl_tS_nat k
    rw [e]
    omega
  | negSucc k =>
    rw [tl_tS_neg, List.length_cons]
    have := numL_len (n := k + 1) (k := 7) (by decide) (by omega)
    omega
/-- what int says of a good word -/
theorem good_int {w : Str} (g : GoodL (tl w)) : intText? w = some (valL (tl w)) ∧ w.length ≤ 8 := by
  obtain ⟨g1, g2, g3, g4⟩ := g
  have hl := len_tl w
  unfold valL
  by_cases h : (tl w).take 1 = [45]
  · have e : figL (tl w) = (tl w).drop 1 := if_pos h
    rw [if_pos h]
    rw [e] at g1 g2 g4 ⊢
    rw [List.length_drop] at g1 g2
    have e2 : tl w = 45 :: (tl w).drop 1 := by
      have := List.take_append_drop 1 (tl w)
      rw [h] at this
      exact this.symm
    refine ⟨intText_neg e2 g4 (fun z => ?_) (by omega), by omega⟩
    have := congrArg List.length z
    rw [List.length_drop, List.length_nil] at this
    omega
  · have e : figL (tl w) = tl w := if_neg h
    rw [if_neg h]
    rw [e] at g1 g2 g4 ⊢
    exact ⟨intText_digits g4 (fun z => by rw [show tl w = [] from z] at g1; exact absurd g1 (by decide)) (by omega), by omega⟩
/-! ### points as texts -/
def ptText (p : P2) : Str := tS p.1 ++ "," ++ tS p.2
def psText (ps : List P2) : Str := Txt.join " " (ps.map ptText)
theorem comma_tl : tl "," = [44] := tl_ofString ","
theorem blank_tl : tl " " = [32] := tl_ofString " "
theorem ptText_join (p : P2) : ptText p = Txt.join "," [tS p.1, tS p.2] := by
  rw [join_eq]
  rfl
theorem ptText_split (p : P2) : Txt.split (ptText p) "," = [tS p.1, tS p.2] := by
  rw [ptText_join]
  refine split_join (s := 44) (S := []) comma_tl (by decide +kernel) (by simp) fun x hx => ?_
  rcases List.mem_cons.mp hx with e | hx
  · rw [e]; exact tS_free (by omega)
  · have e : x = tS p.2 := by simpa using hx
    rw [e]; exact tS_free (by omega)
theorem ptText_free (p : P2) : 32 ∉ tl (ptText p) := by
  unfold ptText
  rw [tl_append, tl_append, comma_tl]
  simp only [List.mem_append, List.mem_singleton]
  rintro ((h | h) | h)
  · exact tS_free (by omega) h
  · omega
  · exact tS_free (by omega) h
theorem psText_split {ps : List P2} (h : ps ≠ []) : Txt.split (psText ps) " " = ps.map ptText := by
  refine split_join (s := 32) (S := []) blank_tl (by decide +kernel) (by simpa using h) fun x hx => ?_
  obtain ⟨p, _, rfl⟩ := List.mem_map.mp hx
  exact ptText_free p
theorem comma_len : Str.length "," = 1 := by rw [len_tl, comma_tl]; rfl
theorem blank_len : Str.length " " = 1 := by rw [len_tl, blank_tl]; rfl
theorem ptText_len {p : P2} (h : Ok p) : (ptText p).length ≤ 17 := by
  obtain ⟨h1, h2, h3, h4⟩ := h
  have a := tS_len (n := p.1) ⟨h1, h2⟩
  have b := tS_len (n := p.2) ⟨h3, h4⟩
  rw [len_tl] at a b ⊢
  unfold ptText
  rw [tl_append, tl_append, comma_tl, List.length_append, List.length_append]
  simp only [List.length_cons, List.length_nil]
  omega
theorem sum_le {l : List Str} {b : Nat} (h : ∀ x ∈ l, x.length ≤ b) : (l.map (·.length)).sum ≤ l.length * b := by
  induction l with
  | nil => simp
  | cons x l ih =>
    have h1 := h x List.mem_cons_self
    have h2 := ih fun y hy => h y (List.mem_cons_of_mem _ hy)
    rw [List.map_cons, List.sum_cons, List.length_cons, Nat.succ_mul]
    omega
theorem join_len (y : Str) : ∀ parts : List Str, (tl (Str.join y parts)).length ≤ (parts.map (·.length)).sum + parts.length * y.length
  | [] => Nat.zero_le _
  | [x] => by
    show (tl x).length ≤ _
    rw [← len_tl]
    simp
  | x :: z :: r => by
    have ih := join_len y (z :: r)
    show (tl (x ++ y ++ Str.join y (z :: r))).length ≤ _
    rw [tl_append, tl_append, List.length_append, List.length_append, ← len_tl, ← len_tl]
    rw [List.map_cons, List.sum_cons, List.length_cons, Nat.succ_mul]
    omega
theorem psText_len {ps : List P2} (h : ∀ p ∈ ps, Ok p) (h20 : ps.length ≤ 20) : (psText ps).length ≤ 400 := by
  unfold psText
  rw [join_eq, len_tl]
  have h1 := join_len " " (ps.map ptText)
  have h2 := sum_le (l := ps.map ptText) (b := 17) fun x hx => by
    obtain ⟨p, hp, rfl⟩ := List.mem_map.mp hx
    exact ptText_len (h p hp)
  rw [blank_len, List.length_map] at h1
  rw [List.length_map] at h2
  omega
end Tw
namespace Tw
open PySem PySem.Spec PyProof.Rows L2 TL
/-! ### the parts of a text that is cut -/
theorem spl_sum (S : List Nat) : ∀ (l : List Nat) (k : Nat) (acc : List Nat), ((spl S k acc l).map List.length).sum ≤ acc.length + l.length
  | [], k, acc => by
    rw [spl_nil]
    simp
  | c :: r, 0, acc => by
    cases h : pre S (c :: r) with
    | true =>
      rw [spl_hit h, List.map_cons, List.sum_cons]
      have := spl_sum S r (S.length - 1) []
      simp only [List.length_cons, List.length_nil] at this ⊢
      omega
    | false =>
      rw [spl_miss h]
      have := spl_sum S r 0 (acc ++ [c])
      rw [List.length_append] at this
      simp only [List.length_cons, List.length_nil] at this ⊢
      omega
  | c :: r, k + 1, acc => by
    show ((spl S k acc r).map List.length).sum ≤ _
    have := spl_sum S r k acc
    rw [List.length_cons]
    omega
theorem spl_some (S : List Nat) : ∀ (l : List Nat) (k : Nat) (acc : List Nat), spl S k acc l ≠ []
  | [], k, acc => by
    rw [spl_nil]
    simp
  | c :: r, 0, acc => by
    cases h : pre S (c :: r) with
    | true =>
      rw [spl_hit h]
      simp
    | false =>
      rw [spl_miss h]
      exact spl_some S r 0 _
  | c :: r, k + 1, acc => by
    show spl S k acc r ≠ []
    exact spl_some S r k acc
theorem split_facts (x y : Str) (hy : tl y ≠ []) (hk : y.cps.all (· < 256) = true) : ((Txt.split x y).map (·.length)).sum ≤ x.length ∧ Txt.split x y ≠ [] := by
  have e := split_spl x y hy (kind_ok hk)
  constructor
  · have e2 : (Txt.split x y).map (·.length) = ((Txt.split x y).map tl).map List.length := by
      rw [List.map_map]
      exact List.map_congr_left fun z _ => len_tl z
    rw [e2, e, len_tl]
    have := spl_sum (tl y) (tl x) 0 []
    simpa using this
  · intro z
    rw [z] at e
    exact spl_some (tl y) (tl x) 0 [] e.symm
theorem mem_sum {l : List Str} {z : Str} (h : z ∈ l) : z.length ≤ (l.map (·.length)).sum := by
  induction l with
  | nil => cases h
  | cons a l ih =>
    rw [List.map_cons, List.sum_cons]
    rcases List.mem_cons.mp h with e | h
    · rw [e]; omega
    · have := ih h; omega
theorem words_facts (x : Str) : ((Txt.split x " ").map (·.length)).sum ≤ x.length ∧ Txt.split x " " ≠ [] ∧ (Txt.split x " ").length ≤ x.length + 2 ∧ ∀ z ∈ Txt.split x " ", z.length ≤ x.length := by
  obtain ⟨h1, h2⟩ := split_facts x " " (by rw [blank_tl]; simp) (by decide +kernel)
  exact ⟨h1, h2, PyProof.Rows.split_le x " ", fun z hz => Nat.le_trans (mem_sum hz) h1⟩
theorem parts_facts (x : Str) : (Txt.split x ",").length ≤ x.length + 2 ∧ ∀ z ∈ Txt.split x ",", z.length ≤ x.length := by
  obtain ⟨h1, h2⟩ := split_facts x "," (by rw [comma_tl]; simp) (by decide +kernel)
  exact ⟨PyProof.Rows.split_le x ",", fun z hz => Nat.le_trans (mem_sum hz) h1⟩
theorem app_len (x y : Str) : (x ++ y).length = x.length + y.length := by
  rw [len_tl, tl_append, List.length_append, ← len_tl, ← len_tl]
theorem join_bd (parts : List Str) : (Txt.join " " parts).length ≤ (parts.map (·.length)).sum + parts.length := by
  rw [join_eq, len_tl]
  have := join_len " " parts
  rw [blank_len] at this
  omega
theorem pickS (L : List Str) (h : 0 < L.length) (i : Int) : ∃ z ∈ L, atI (L.map V.str) (i % (L.length : Int)) = some (.str z) := by
  have h0 : 0 ≤ i % (L.length : Int) := Int.emod_nonneg _ (by omega)
  have h1 : i % (L.length : Int) < L.length := Int.emod_lt_of_pos _ (by omega)
  obtain ⟨k, ek⟩ := Int.eq_ofNat_of_zero_le h0
  have hk : k < L.length := by omega
  exact ⟨L[k], List.getElem_mem hk, at_of (j := k) ek (by rw [List.getElem?_map, List.getElem?_eq_getElem hk]; rfl)⟩
theorem pickC (x : Str) (h : 0 < x.length) (i : Int) : ∃ c, atI x.cps.toList (i % (x.length : Int)) = some c := by
  have h0 : 0 ≤ i % (x.length : Int) := Int.emod_nonneg _ (by omega)
  have h1 : i % (x.length : Int) < x.length := Int.emod_lt_of_pos _ (by omega)
  obtain ⟨k, ek⟩ := Int.eq_ofNat_of_zero_le h0
  have hl : x.length = x.cps.toList.length := len_tl x
  have hk : k < x.cps.toList.length := by omega
  exact ⟨x.cps.toList[k], by rw [ek]; exact atI_nat (j := k) (List.getElem?_eq_getElem hk)⟩
/-! ### words that are points -/
def GoodP (w : Str) (p : P2) : Prop := ∃ a b, Txt.split w "," = [a, b] ∧ GoodL (tl a) ∧ GoodL (tl b) ∧ p = (valL (tl a), valL (tl b))
def AllG : List Str → List P2 → Prop
  | [], [] => True
  | w :: ws, p :: ps => GoodP w p ∧ AllG ws ps
  | _, _ => False
theorem GoodP.uniq {w : Str} {p q : P2} (h : GoodP w p) (k : GoodP w q) : p = q := by
  obtain ⟨a, b, e, _, _, rfl⟩ := h
  obtain ⟨c, d, f, _, _, rfl⟩ := k
  rw [e] at f
  injection f with f1 f
  injection f with f2 _
  rw [f1, f2]
theorem AllG.more : ∀ {ws : List Str} {ps : List P2} {w : Str} {p : P2}, AllG ws ps → GoodP w p → AllG (ws ++ [w]) (ps ++ [p])
  | [], [], _, _, _, h => ⟨h, trivial⟩
  | _ :: ws, _ :: ps, _, _, ⟨a, b⟩, h => ⟨a, AllG.more b h⟩
  | [], _ :: _, _, _, z, _ => z.elim
  | _ :: _, [], _, _, z, _ => z.elim
theorem AllG.uniq : ∀ {ws : List Str} {ps qs : List P2}, AllG ws ps → AllG ws qs → ps = qs
  | [], [], [], _, _ => rfl
  | _ :: ws, _ :: ps, _ :: qs, ⟨a, b⟩, ⟨c, d⟩ => by rw [a.uniq c, AllG.uniq b d]
  | [], _ :: _, _, z, _ => z.elim
  | [], [], _ :: _, _, z => z.elim
  | _ :: _, [], _, z, _ => z.elim
  | _ :: _, _ :: _, [], _, z => z.elim
theorem AllG.len : ∀ {ws : List Str} {ps : List P2}, AllG ws ps → ps.length = ws.length
  | [], [], _ => rfl
  | _ :: ws, _ :: ps, ⟨_, b⟩ => by rw [List.length_cons, List.length_cons, AllG.len b]
  | [], _ :: _, z => z.elim
  | _ :: _, [], z => z.elim
theorem AllG.mem : ∀ {ws : List Str} {ps : List P2} {w : Str}, AllG ws ps → w ∈ ws → ∃ p ∈ ps, GoodP w p
  | _ :: ws, p :: ps, w, ⟨a, b⟩, h => by
    rcases List.mem_cons.mp h with e | h
    · exact ⟨p, List.mem_cons_self, by rw [e]; exact a⟩
    · obtain ⟨q, h1, h2⟩ := AllG.mem b h
      exact ⟨q, List.mem_cons_of_mem _ h1, h2⟩
  | [], _, _, _, h => by cases h
  | _ :: _, [], _, z, _ => z.elim
/-- the numbers that the law's own reading lets pass -/
def GoodR (w : List Nat) : Prop := GoodL w ∧ -1000000 ≤ valL w ∧ valL w ≤ 1000000
open Classical in
noncomputable def numV (w : Str) : V := if GoodR (tl w) then .int (valL (tl w)) else .non
theorem numV_yes {w : Str} (h : GoodR (tl w)) : numV w = .int (valL (tl w)) := if_pos h
theorem numV_no {w : Str} (h : ¬ GoodR (tl w)) : numV w = .non := if_neg h
/-- in the numbers' signs -/
theorem abs_val (w : List Nat) : (valL w).natAbs = NumText.digitsVal (figL w) := by
  unfold valL
  split <;> omega
theorem figL_len (w : List Nat) : (figL w).length ≤ w.length := by
  unfold figL
  split
  · rw [List.length_drop]; omega
  · exact Nat.le_refl _
end Tw
namespace Tw
open PySem PySem.Spec PyProof.Rows L2
/-! ### a class of errors of the program's own -/
structure Ec (K : PySem.W.Frag) (mg : Str → Option Value) (x : Str) (C : Addr) : Prop where
  g : mg x = some (.ref C)
  exc : PySem.W.excIn K C [.type "ValueError", .type "Exception", .type "BaseException", .type "object"] "ValueError.__new__" = true
  kp : PySem.W.keepIn K (.ref C) = true
  bs : PySem.W.subIn K (.ref C) (.type "BaseException") = some true
  ve : PySem.W.subIn K (.ref C) (.type "ValueError") = some true
  me : PySem.W.subIn K (.ref C) (.ref C) = some true
  ty : PySem.W.typeIn K (.ref C) = some (.type "type")
  cl : PySem.W.isClsIn K C = true
  dc : PySem.W.hasDictIn K C = true
  hg : PySem.W.findIn K (.ref C) "__getattribute__" = some (some (.builtin "BaseException.__getattribute__"))
  hk : PySem.W.findIn K (.ref C) "__getattr__" = some none
  ha : PySem.W.findIn K (.ref C) "__class__" = some (some (.builtin "object.__class__"))
  hm : PySem.W.mroIn K C (.type "object") = some true
section
variable {K : PySem.W.Frag} {mg : Str → Option Value} {x y : Str} {C D : Addr}
/-- what is asked of the written part beside -/
structure Eg (K : PySem.W.Frag) : Prop where
  hn : PySem.W.specialIn K (.builtin "object.__class__") "__get__" = some (some (.builtin "getset_descriptor.__get__"))
  ht : PySem.W.takesIn K (.builtin "object.__class__") = some true
theorem Ec.c (e : Ec K mg x C) (g : Eg K) : ExcC K C := ⟨e.hg, e.hk, e.bs, e.dc, e.ha, g.hn, g.ht, e.hm⟩
theorem Ec.kit (e : Ec K mg x C) {t : Addr} {b : Bool} (h : PySem.W.subIn K (.ref t) (.ref C) = some b) : PySem.W.kitOne K (.ref t) (.ref C) = some b := by
  unfold PySem.W.kitOne
  by_cases q : (Value.ref t == Value.ref C) = true
  · have e1 : t = C := Value.ref.inj (beq_iff_eq.mp q)
    rw [if_pos q]
    rw [e1, e.me] at h
    exact h
  · rw [if_neg q]
    unfold PySem.W.kitCls
    have e2 : ((PySem.W.clsIn K C).isSome && PySem.W.typeIn K (.ref C) == some (.type "type")) = true := by
      rw [e.ty, show (PySem.W.clsIn K C).isSome = true from e.cl]
      rfl
    exact (if_pos e2).trans h
theorem Ec.kitV (e : Ec K mg x C) : PySem.W.kitOne K (.ref C) (.type "ValueError") = some true := by
  unfold PySem.W.kitOne
  have q : (Value.ref C == Value.type "ValueError") = false := rfl
  rw [q, if_neg Bool.false_ne_true]
  unfold PySem.W.kitCls
  have e2 : PySem.W.kitMeta "ValueError" = true := by decide +kernel
  exact (if_pos e2).trans e.ve
theorem Ec.exm (e : Ec K mg x C) {cls : Value} {b : Bool} (h : PySem.W.subIn K cls (.ref C) = some b) : PySem.W.exmOne K cls (.ref C) = some b := PySem.W.exm_ref e.bs e.dc e.ty h
theorem Ec.make {X : Cx} (e : Ec X.K X.mg x C) {m : Str} {j : Nat} {p p2 pos : Pos} (hx : Gl X x := by rfl) (hd : (x == ("__debug__" : Str)) = false := by decide) :
    PMk X (.Call (.Name x p) [.Constant (.str m) j p2] [] pos) (fun _ H Q => Q (.ref C) none H) :=
  pmk_own PySem.F.excBase_ValueError e.exc e.g e.kp (raises_own e.bs e.ty) hx hd
end
/-! ### a def that is handed the caught error -/
structure FnE (P : Program) (w : World) (K : PySem.W.Frag) (mg : Str → Option Value) (base : Heap) (k : Nat) (f : Addr) (fd : FuncData) (ps : List Str) (sp : Addr × Obj → Sp) : Prop where
  len : ∀ z vs H Q E, sp z vs H Q E → vs.length = ps.length
  run : ∀ (A : Around) (out : List Env) (st : Shared) (H : Hp) (ar : Args) (us : List Value) (vs : List V) (Q : VK) (E : XK) (z : Addr × Obj), L2H.RoomH k A → L2H.PinOk out H st z → Env0 P w K mg base A out st H → BindsTo st fd ar (ps.zip us) → Vals vs us → sp z vs H Q E →
    codeAny (model P w) A (.call (.ref f) ar) (CR CX0 out P w H st Q E) st
section
variable {P : Program} {w : World} {K : PySem.W.Frag} {mg : Str → Option Value} {base : Heap}
theorem okE {x qual : Str} {st : Stmt} {f : Addr} {fd : FuncData} {N ps : List Str} {k : Nat} {sp : Addr × Obj → Sp} (F : Fun K x qual st f fd) (S : FnScope N ps (defScope st)) (len : ∀ z vs H Q E, sp z vs H Q E → vs.length = ps.length)
    (hbody : ∀ (cdv : Value) (A : Around) (out : List Env) (s : Shared) (H : Hp) (vs : List V) (Q : VK) (E : XK) (z : Addr × Obj), L2H.RoomH k (A.deeper (envOfC qual (defScope st) s.heap.objs.size f cdv)) → sp z vs H Q E →
      ∃ t, PSs (L2H.cxH CX0 P w K mg base N qual (defScope st) f cdv A out s H E z) (defBody st) t ∧ t { nx := fun _ H' => Q .non H', rt := Q } (start N vs) H) : FnE P w K mg base (k + 1) f fd ps sp := by
  obtain ⟨oc, od, kV, doc, pm, an, cdv, ct, osl, rfl, lk, hcd⟩ := F.ex
  refine ⟨len, fun A out s H ar us vs Q E z room pin env bd rv want => ?_⟩
  have hl := len _ _ _ _ _ want
  have inK : K.In s.heap := env.mod.kin.keeps fun b o e => (env.bs b o e).1
  have nolim : s.heap.NoLimit := env.mod.nolimit.keeps fun b o e => (env.bs b o e).1
  have kinds : ∀ y ∈ ps.zip us, (defScope st).names.lookup y.1 = some .local ∨ ((defScope st).names.lookup y.1 = some .cell ∧ ((cellsFrom (s.heap.objs.size + 1) (defScope st).names []).lookup y.1).isSome = true) := fun ⟨n, v⟩ hy => by
    rcases S.par n (List.of_mem_zip hy).1 with q | q
    · exact .inl q
    · exact .inr ⟨q, PySem.W.cellsFrom_some _ _ _ (.inl q)⟩
  refine codeAny_call_function room.depth (inK _ _ lk) rfl S.co S.gen rfl (PySem.W.codeRec_of inK hcd) (bd _ _ _ _ ?_)
  refine wpAny_newFunctionEnv_cells S.kind kinds fun env1 he s1 x1 => ?_
  subst he
  refine ⟨nolim.keeps x1.toInCall.keep, codeAny_func ?_⟩
  obtain ⟨t, ht, ask⟩ := hbody cdv A out s H vs Q E z (room.deeper _) want
  have I : Inv (L2H.cxH CX0 P w K mg base N qual (defScope st) f cdv A out s H E z) [] (L2.start N vs) H s1 := L2H.inv_startH S pin env hl rv x1
  refine wpAny_mono (ht.run [] s1 (L2.start N vs) H _ I ask) (fun fl s' hs => ?_) fun e s' hs => hs
  have done : ∀ {σ' : L2.St} {H' : Hp} {v : V} {u : Value}, Inv (L2H.cxH CX0 P w K mg base N qual (defScope st) f cdv A out s H E z) [] σ' H' s' → RelV v u → Q v H' → CE out P w H s Q u s' :=
    fun {σ' H' v u} J r1 q1 => ⟨v, H', J.os, J.bare, J.base, J.hok, r1, q1⟩
  cases fl with
  | ret u =>
    obtain ⟨v, σ', H', J, r1, q1⟩ := hs
    exact done J r1 q1
  | next =>
    obtain ⟨σ', H', J, q1⟩ := hs
    exact done (v := V.non) (u := Value.none) J rfl q1
  | brk =>
    obtain ⟨_, _, _, q1⟩ := hs
    exact q1.elim
  | cont =>
    obtain ⟨_, _, _, q1⟩ := hs
    exact q1.elim
end
theorem call_isP {X : Cx} {a D : Addr} {oe : Obj} (C : ExcC X.K D) (hp : (a, oe) ∈ X.pn) (hz : Zc (.ref D) none oe) (hf : ∃ vs, oe.data = .fields vs) : CallR X (.builtin "isinstance") (rIsE X.K D a) := by
  intro pins st σ H xs us Q I r want
  obtain ⟨c, cv, b, rfl, hcv, kit, q⟩ := want
  cases r with
  | cons rx rr =>
    cases rr with
    | cons rt rr =>
      cases rr
      cases rx
      have ec := hcv _ rt
      subst ec
      obtain ⟨there, _⟩ := I.pin (a, oe) (List.mem_append_left _ hp)
      obtain ⟨vs, hv⟩ := hf
      have J : PySem.W.InstAt st.heap a oe D none := by
        obtain ⟨o1, o2, o3, o4⟩ := oe
        obtain ⟨z1, z2⟩ := hz
        dsimp only at z1 z2 hv
        subst z1 z2 hv
        exact ⟨there, rfl, rfl, trivial⟩
      exact PySem.W.kia_one (PySem.W.handS_kitx_exc C.hg C.hk C.hs C.hd C.ha C.hn C.ht C.hm) I.kIn J kit (fun z => nomatch z) fun tk => ⟨.bl b, H, I.kept (t' := tk) fun _ _ z => z, rfl, q⟩
/-- f(e) within an except suite, e the error that it holds -/
theorem pe_callE {X : Cx} {k : Nat} {f : Addr} {fd : FuncData} {x : Str} {ps : List Str} {sp : Addr × Obj → Sp} {te : TE} {e : Expr} {q pos : Pos} (F : FnE X.prog X.w X.K X.mg X.base k f fd ps sp) {z : Addr × Obj} (hz : z ∈ X.pn) (hr : L2H.RoomH k X.A) (hx : Gl X x) (hm : X.mg x = some (.ref f))
    (hk : PySem.W.keepIn X.K (.ref f) = true) (hb : Binds X.K fd ps []) (he : PE X e te) (hdb : (x == ("__debug__" : Str)) = false := by decide) (hs : starEach [e] X.env = (false, eval e X.env) :: starEach [] X.env := by rfl) (hpl : (backTo pos (starEach [] X.env)).any (·.1) = false := by rfl) :
    PE X (.Call (.Name x q) [e] [] pos) (fun σ H Q => te σ H fun v H1 => sp z [v] H1 Q E0) := by
  have ha : PA X [e] (fun σ H Q => te σ H fun v H1 => Q [v] H1) := pa_cons he pa_nil hs
  refine ⟨fun pins s σ H Q I h => ?_⟩
  refine wpAny_Call_Name_kw (ld_glob I hx hm ?_ hdb)
  refine PySem.W.callWith_K (h₀ := X.base) I.ok.mod.kin hk (thn (ha.run pos pins s σ H (fun vs H1 => sp z vs H1 Q E0) I h) fun us s1 ⟨vs, H1, I1, r1, q1⟩ => ⟨I1.kIn, ?_⟩) hs hpl
  have hl : us.length = ps.length := by rw [← r1.length]; exact F.len _ _ _ _ _ q1
  have b1 := hb s1 us I1.kIn (by rw [List.append_nil]; exact hl)
  rw [List.append_nil] at b1
  have P1 := I1.pin z (List.mem_append_left _ hz)
  have pin : L2H.PinOk X.stack H1 s1 z := ⟨P1.1, P1.2.1, fun m => (List.mem_cons.mp (I1.stkSub z.1 m)).elim P1.2.2.1 P1.2.2.2.1, P1.2.2.2.2⟩
  refine wpAny_call (codeAny_mono (F.run X.A X.stack s1 H1 ⟨us, []⟩ us vs Q E0 z hr pin I1.env0 b1 r1 q1) fun r s' after => ?_)
  cases r with
  | error e => exact False.elim after
  | ok fl =>
    cases fl with
    | ret u => exact I1.after after
    | next => exact False.elim after
    | brk => exact False.elim after
    | cont => exact False.elim after
structure Fe (P : Program) (w : World) (K : PySem.W.Frag) (mg : Str → Option Value) (base : Heap) (k : Nat) (x : Str) (ps : List Str) (sp : Addr × Obj → Sp) where
  f : Addr
  fd : FuncData
  ok : FnE P w K mg base k f fd ps sp
  g : mg x = some (.ref f)
  kp : PySem.W.keepIn K (.ref f) = true
  b : Binds K fd ps []
def Df.fe {P : Program} {w : World} {K : PySem.W.Frag} {mg : Str → Option Value} {base : Heap} {x : Str} {st : Stmt} {ps : List Str} {k : Nat} {sp : Addr × Obj → Sp} (D : Df K mg x st ps) (h : FnE P w K mg base k D.f D.fd ps sp) : Fe P w K mg base k x ps sp := ⟨D.f, D.fd, h, D.g, D.F.kp, D.b⟩
/-- a call that may let an error out -/
theorem pcallX {X : Cx} {k j : Nat} {x : Str} {ps : List Str} {sp : Sp} {p pos : Pos} {e : Expr} {es : List Expr} {t : TA} {W : WX} (C : Fn X.prog X.w X.K X.mg X.base (L2.CX X.prog X.w) k x ps sp) (tk : Takes X W) (hr : Room j X.A) (ha : PA X (e :: es) t) (hkj : k ≤ j := by decide) (hg : Gl X x := by rfl)
    (hdb : (x == ("__debug__" : Str)) = false := by decide) (he : starEach (e :: es) X.env = (false, eval e X.env) :: starEach es X.env := by rfl) (hpl : (backTo pos (starEach es X.env)).any (·.1) = false := by rfl) : PE X (.Call (.Name x p) (e :: es) [] pos) (tCallS sp (WE W) t) :=
  pe_callS C.ok (hr.mono hkj) hg C.g C.kp C.b (fun σ => passAt tk σ) ha hdb he hpl
/-- what the laws ask of a caught error: of which classes it is -/
def spMk (K : PySem.W.Frag) (S1 S2 S3 : Addr) : Addr × Obj → Sp := fun z vs H Q _ => ∃ (D : Addr) (b1 b2 b3 : Bool), vs = [.ref z.1] ∧ Zc (.ref D) none z.2 ∧ (∃ v, z.2.data = .fields v) ∧ ExcC K D ∧
  PySem.W.kitOne K (.ref D) (.ref S1) = some b1 ∧ PySem.W.kitOne K (.ref D) (.ref S2) = some b2 ∧ PySem.W.kitOne K (.ref D) (.ref S3) = some b3 ∧ PySem.W.kitOne K (.ref D) (.type "ValueError") = some true ∧
  ∀ H' q, Same H H' → H q = none → H' q = some (.lst ([b1, b2, b3, false].map V.bl)) → Q (.ref q) H'
def tMk (K : PySem.W.Frag) (S1 S2 S3 : Addr) (i : Nat) (a : Addr) (cls : Value) (d : Option Addr) : TE := fun σ H Q => tVar i σ H fun v H1 => v = .ref a ∧ ∃ (D : Addr) (b1 b2 b3 : Bool), cls = .ref D ∧ d = none ∧ ExcC K D ∧
  PySem.W.kitOne K (.ref D) (.ref S1) = some b1 ∧ PySem.W.kitOne K (.ref D) (.ref S2) = some b2 ∧ PySem.W.kitOne K (.ref D) (.ref S3) = some b3 ∧ PySem.W.kitOne K (.ref D) (.type "ValueError") = some true ∧
  ∀ H' q, Same H1 H' → H1 q = none → H' q = some (.lst ([b1, b2, b3, false].map V.bl)) → Q (.ref q) H'
theorem pe_marks {X : Cx} {S1 S2 S3 : Addr} {j i : Nat} {a : Addr} {oe : Obj} {cls : Value} {d : Option Addr} {pn : List (Addr × Obj)} {e : Expr} {q pos : Pos} (C : Fe X.prog X.w X.K X.mg X.base 1 "_law_marks_of" ["e"] (spMk X.K S1 S2 S3)) (hr : Room j X.A)
    (hz : Zc cls d oe) (hf : ∃ v, oe.data = .fields v) (he : PE (X.suite a ((a, oe) :: pn)) e (tVar i)) (h1 : 1 ≤ j := by decide) (hg : Gl (X.suite a ((a, oe) :: pn)) "_law_marks_of" := by rfl)
    (hs : starEach [e] (X.suite a ((a, oe) :: pn)).env = (false, eval e (X.suite a ((a, oe) :: pn)).env) :: starEach [] (X.suite a ((a, oe) :: pn)).env := by rfl) (hpl : (backTo pos (starEach [] (X.suite a ((a, oe) :: pn)).env)).any (·.1) = false := by rfl) :
    PE (X.suite a ((a, oe) :: pn)) (.Call (.Name "_law_marks_of" q) [e] [] pos) (tMk X.K S1 S2 S3 i a cls d) := by
  have hr1 := hr.mono h1
  refine pjoinE (pe_callE (X := X.suite a ((a, oe) :: pn)) C.ok (z := (a, oe)) List.mem_cons_self ⟨hr1.dp, hr1.un⟩ hg C.g C.kp C.b he (by decide) hs hpl) ?_
  rintro σ H Q ⟨v, ev, rfl, D, b1, b2, b3, rfl, rfl, ec, k1, k2, k3, kv, q1⟩
  exact ⟨_, ev, D, b1, b2, b3, rfl, hz, hf, ec, k1, k2, k3, kv, q1⟩
/-- four truths as data -/
def blD (bs : List Bool) : PyData := .list (bs.map .bool)
theorem bls_lay : ∀ bs : List Bool, PyData.canLayAll0 (bs.map .bool) = true
  | [] => by simp [PyData.canLayAll0]
  | b :: bs => by simp [PyData.canLayAll0, PyData.canLay0, bls_lay bs]
theorem bls_depth : ∀ bs : List Bool, PyData.depthAll (bs.map .bool) = 0
  | [] => by simp [PyData.depthAll]
  | b :: bs => by
    have h := bls_depth bs
    simp only [List.map_cons, PyData.depthAll, PyData.depth]
    omega
theorem blD_shaped (bs : List Bool) : SeqAt.shaped (blD bs) = true := by
  have h : (blD bs).depth ≤ 64 := by
    have := bls_depth bs
    simp only [blD, PyData.depth]
    omega
  show ((blD bs).canLay0 && decide ((blD bs).depth ≤ 64)) = true
  rw [Bool.and_eq_true]
  exact ⟨by simp only [blD, PyData.canLay0]; exact bls_lay bs, decide_eq_true h⟩
theorem bls_dp {K : PySem.W.Frag} {H : Hp} : ∀ bs : List Bool, DpAll K H (bs.map V.bl) (bs.map .bool)
  | [] => .nil
  | b :: bs => .cons (.bl b) (bls_dp bs)
theorem bl_dp {K : PySem.W.Frag} {H : Hp} {a : Addr} {bs : List Bool} (h : H a = some (.lst (bs.map V.bl))) : Dp K H (.ref a) (blD bs) := .lst (SqL.of h) (bls_dp bs)
theorem bls_eqv : ∀ bs cs : List Bool, PyData.eqvAll (bs.map .bool) (cs.map .bool) = decide (bs = cs)
  | [], [] => by simp [PyData.eqvAll]
  | [], c :: cs => by simp [PyData.eqvAll]
  | b :: bs, [] => by simp [PyData.eqvAll]
  | b :: bs, c :: cs => by
    have ih := bls_eqv bs cs
    simp only [List.map_cons, PyData.eqvAll, ih]
    by_cases h2 : bs = cs <;> cases b <;> cases c <;> simp [PyData.eqv, h2]
theorem blD_eqv (bs cs : List Bool) : PyData.eqv (blD bs) (blD cs) = decide (bs = cs) := by
  show PyData.eqvAll (bs.map .bool) (cs.map .bool) = _
  exact bls_eqv bs cs
end Tw
namespace Tw
open PySem PySem.Spec PyProof.Rows L2
/-! ### a list comprehension whose element may raise (no free names, its value stored in a name of the def) -/
theorem frames_but {h h2 B B2 : Heap} {C : Addr} (sb : ∀ b, b ≠ C → h2.get? b = h.get? b) : ∀ {l : List Env}, h.FunFrames B l → (∀ L ∈ frs l, L ≠ C) → (∀ L ∈ frs l, B2.get? L = none) → h2.FunFrames B2 l
  | [], _, _, _ => trivial
  | env :: l, hf, n1, n2 => by
    obtain ⟨hk, ⟨L, o, e1, _, e3, e4⟩, hr⟩ := hf
    have mL : L ∈ frs (env :: l) := List.mem_filterMap.mpr ⟨env, List.mem_cons_self, e1⟩
    have sub : ∀ b ∈ frs l, b ∈ frs (env :: l) := fun b hb => by
      obtain ⟨v, hv, q⟩ := List.mem_filterMap.mp hb
      exact List.mem_filterMap.mpr ⟨v, List.mem_cons_of_mem _ hv, q⟩
    exact ⟨hk, ⟨L, o, e1, n2 L mL, (sb L (n1 L mL)).trans e3, e4⟩, frames_but sb hr (fun b hb => n1 b (sub b hb)) fun b hb => n2 b (sub b hb)⟩
/-- what lets the error of a turn out of the block -/
def outB (X : Cx) (C : Addr) (ce : Env) (Q : Value → Shared → Prop) : Value → Shared → Prop := fun x st => ∃ m, st.heap.Ns C m ∧ ∀ h2, Heap.SameBut C st.heap h2 → wpAny (model X.prog X.w) X.A (PySem.passOn "comprehension.variables-let-go" x ce : Sem Value) Q X.xe { st with heap := h2 }
section
variable {X : Cx} {EE : XK}
theorem fly_out {pins : List (Addr × Obj)} {σ : L2.St} {H3 : Hp} {s3 : Shared} {scope : Scope} {ce : Env} {fp : List Addr} {xe : Value → Shared → Prop} {Q : Value → Shared → Prop} (hst : X.stack = X.env :: X.outer) (hfr : X.env.frame = some X.env.locals)
    (tk : Takes X fun cls d _ H => EE cls d H) (I3 : Inv X pins σ H3 s3) (f3 : ∀ b ∈ fp, FpOk X pins H3 b ∧ b < s3.heap.objs.size) (cL : ce.locals = s3.heap.objs.size) (cF : ce.frame = X.env.frame)
    {pins' : List (Addr × Obj)} {σ' : L2.St} {H' : Hp} {s1 s2 : Shared} {e : Value} (I1 : Inv ((X.blk s3 H3 scope ce fp).wish xe) pins' σ' H' s1) (cx : L2.CX X.prog X.w X.stack H' s1 EE e s2) :
    notedBy (model X.prog X.w) X.A ce (outB X s3.heap.objs.size ce Q) e s2 := by
  obtain ⟨a, B, H'', cls, d, rfl, fl, hok, ub, na, os, ag, hE⟩ := cx
  have J1 : Inv (X.blk s3 H3 scope ce fp) pins' σ' H' s1 := Inv.unwish (X := X.blk s3 H3 scope ce fp) (E := xe) I1
  have fr : X.A.frames = some (X.env :: X.outer) := by rw [I3.ok.frames, hst]
  obtain ⟨C, eC⟩ : ∃ C, C = s3.heap.objs.size := ⟨_, rfl⟩
  rw [← eC] at cL ⊢
  -- the block's own dict
  obtain ⟨m, hn, _⟩ := J1.loc
  have hn : s1.heap.Ns ce.locals m := hn
  rw [cL] at hn
  obtain ⟨oC, es, ep, hoC, rC⟩ := hn
  have nC1 : H' C = none := by
    have z : H' ce.locals = none := J1.free
    rw [cL] at z
    exact z
  have Cnf : C ∉ frs X.stack := fun hm => by
    obtain ⟨_, o, e1, _⟩ := I3.stack.mem hm
    have := Heap.lt_size e1
    rw [eC] at this
    exact Nat.lt_irrefl _ this
  have BC : B.get? C = some oC := ub.keep C oC hoC nC1 Cnf
  -- the ground without it
  obtain ⟨B2, b1, b2⟩ := restrict B fun b => decide (b ≠ C)
  have B2g : ∀ b, b ≠ C → B2.get? b = B.get? b := fun b hb => b1 b (decide_eq_true hb)
  have B2C : B2.get? C = none := b2 C (by simp)
  have B2k : ∀ b o, B2.get? b = some o → B.get? b = some o ∧ b ≠ C := fun b o e1 => by
    by_cases hb : b = C
    · rw [hb, B2C] at e1
      cases e1
    · rw [← B2g b hb]
      exact ⟨e1, hb⟩
  have B2n : ∀ b, B.get? b = none → B2.get? b = none := fun b e1 => by
    by_cases hb : b = C
    · rw [hb]
      exact B2C
    · rw [B2g b hb]
      exact e1
  -- the state without the error
  obtain ⟨G, g1, g2⟩ := restrict s2.heap fun b => (B.get? b).isSome || decide (b ∈ frs X.stack)
  have st : B.StaysIn s2.heap := fl.1
  have gB : ∀ b o, B.get? b = some o → G.get? b = some o := fun b o e1 => by
    rw [g1 b (by simp [e1])]
    exact st b o e1
  have gF : ∀ b, b ∈ frs X.stack → G.get? b = s2.heap.get? b := fun b hb => g1 b (by simp [hb])
  have og : ∀ b o, G.get? b = some o → s2.heap.get? b = some o ∧ ((B.get? b).isSome = true ∨ b ∈ frs X.stack) := fun b o e1 => by
    cases q : ((B.get? b).isSome || decide (b ∈ frs X.stack)) with
    | false =>
      rw [g2 b q] at e1
      cases e1
    | true =>
      rw [g1 b q] at e1
      exact ⟨e1, by simpa [Bool.or_eq_true] using q⟩
  have J2 : Inv (X.blk s3 H3 scope ce fp) pins' σ' H'' { s1 with heap := G, gens := s2.gens, drawn := s2.drawn, toks := s2.toks } := by
    refine J1.call (ch := []) ⟨fun b o e1 n hb _ => gB b o (ub.keep b o e1 n hb), fun b o e1 n hb _ => ?_, fun b o e1 n _ => ub.free b o e1 n, fun b o e1 _ => ?_, ub.tups, ub.frzs, ub.tbls⟩ (hok.kept gB) ag (fun _ z => nomatch z)
    · obtain ⟨sl, q⟩ := ub.slot b o e1 hb
      exact ⟨sl, by rw [gF b hb]; exact q⟩
    · by_cases hb : b ∈ frs X.stack
      · obtain ⟨sl, q⟩ := ub.slot b o e1 hb
        exact ⟨_, by rw [gF b hb]; exact q⟩
      · obtain ⟨o', q⟩ := ub.there b o e1 hb
        exact ⟨o', gB b o' q⟩
  have J3 : Inv X pins σ H'' { s1 with heap := G, gens := s2.gens, drawn := s2.drawn, toks := s2.toks } := I3.call' (ch := fp) J2.os J2.base J2.hok J2.bare fun b hb => ⟨(f3 b hb).1.2.2.2.1, (f3 b hb).1.2.1, (f3 b hb).1.2.2.2.2.1, (f3 b hb).1.2.2.2.2.2⟩
  have nC2 : H'' C = none := by
    have z : H'' ce.locals = none := J2.free
    rw [cL] at z
    exact z
  obtain ⟨G2, k1, k2⟩ := restrict G fun b => decide (b ≠ C)
  have G2g : ∀ b, b ≠ C → G2.get? b = G.get? b := fun b hb => k1 b (decide_eq_true hb)
  have G2C : G2.get? C = none := k2 C (by simp)
  have G2k : ∀ b o, G2.get? b = some o → G.get? b = some o ∧ b ≠ C := fun b o e1 => by
    by_cases hb : b = C
    · rw [hb, G2C] at e1
      cases e1
    · rw [← G2g b hb]
      exact ⟨e1, hb⟩
  obtain ⟨_, q1, q2, q3, q4, q5⟩ := I3.fpOk (H' := H'') (b := C) (by rw [eC]; exact Nat.le_refl _) nC2
  have J4 : Inv X pins σ H'' { s1 with heap := G2, gens := s2.gens, drawn := s2.drawn, toks := s2.toks } := J3.turned (t' := s2.toks) (it := C) (fun b o hb e1 => (G2g b hb).trans e1) nC2 q1 q3 q4 q5
  -- it is noted where the def stands
  show wpAny _ _ (noteFrame (.ref a) ce) _ _ s2
  have en : noteFrame (.ref a) ce = noteFrame (.ref a) X.env := by
    unfold noteFrame PySem.frameOf
    rw [cF]
  rw [en]
  refine HandSPX.looks_onZ Zc.steady fr hfr (by rw [← hst]; exact fl) fun h1 held up1 => ?_
  refine ⟨m, ⟨oC, es, ep, held.1 C oC BC, rC⟩, fun h2 sb => ?_⟩
  obtain ⟨w1, w2, w3, oe, vs, T, oT, ts, he, hz, hd, hv1, hnT, hTe, hT, hdT, hv3⟩ := held
  have aC : a ≠ C := fun z => by
    rw [z, BC] at w2
    cases w2
  have TC : T ≠ C := fun z => by
    rw [z, BC] at hnT
    cases hnT
  have held2 : HandSPX.HeldZ B2 (X.env :: X.outer) a (Zc cls d) X.env.locals h2 := by
    refine ⟨fun b o e1 => ?_, B2n a w2, frames_but (fun b hb => sb.2 b hb) w3 (fun L hL z => Cnf (by rw [hst, ← z]; exact hL)) (fun L hL => ?_), oe, vs, T, oT, ts, (sb.2 a aC).trans he, hz, hd, hv1, B2n T hnT, hTe, (sb.2 T TC).trans hT, hdT, hv3⟩
    · obtain ⟨e2, hb⟩ := B2k b o e1
      exact (sb.2 b hb).trans (w1 b o e2)
    · exact B2n L (w3.mem hL).1
  unfold PySem.passOn
  refine wpAny_bind (wpAny_field ((sb.2 a aC).trans he) hd hv1 ?_)
  rw [if_neg (show ¬ ((Value.ref T == Value.none) = true) from by simp)]
  have fin : wpAny (model X.prog X.w) X.A (setFlight (.ref a) ce.frame) (fun _ s4 => wpAny (model X.prog X.w) X.A (throw (.ref a) : Sem Value) Q X.xe s4) X.xe { s2 with heap := h2 } := by
    rw [cF, hfr]
    refine HandSPX.setFlight_onZ held2 fun h3 held3 up3 => wpAny_throw (tk _ _ ?_)
    refine ⟨a, B2, { s1 with heap := G2, gens := s2.gens, drawn := s2.drawn, toks := s2.toks }, pins, σ, H'', cls, d, rfl, J4, fun b o e1 hb => ?_, fun b o e1 hnf => ?_, .inr (.inr (by rw [hst]; exact held3)), na, os, ag, hE⟩
    · obtain ⟨e2, hbC⟩ := G2k b o e1
      obtain ⟨e3, h⟩ := og b o e2
      rcases h with h | h
      · obtain ⟨o', q⟩ := Option.isSome_iff_exists.mp h
        have z := st b o' q
        rw [e3] at z
        cases z
        rw [B2g b hbC]
        exact q
      · exact absurd h hb
    · obtain ⟨e2, hbC⟩ := G2k b o e1
      obtain ⟨e3, _⟩ := og b o e2
      obtain ⟨sl1, u1⟩ := up1 b o e3 hnf
      have u2 : h2.get? b = some { o with slots := sl1 } := (sb.2 b hbC).trans u1
      obtain ⟨sl3, u3⟩ := up3 b _ u2 hnf
      exact ⟨sl3, u3⟩
  first
    | exact wpAny_bind (wpAny_pure (wpAny_bind fin))
    | exact wpAny_bind fin
end
/-- behind the block: all well, the list is stored; an error, it goes on -/
def blkEnd (X : Cx) (u : Value → Sem Unit) (Q : Value → Shared → Prop) (acc : Value) (C : Addr) (ce : Env) (r : Result) (st : Shared) : Prop := match r with
  | .ok _ => wpAny (model X.prog X.w) X.A (u acc) (fun _ s2 => ∃ m, s2.heap.Ns C m ∧ ∀ h2, Heap.SameBut C s2.heap h2 → Q .none { s2 with heap := h2 }) X.xe st
  | .error x => outB X C ce Q x st
theorem ps_setLcX {X : Cx} {EE : XK} {i : Nat} {y : Str} {py : Pos} {elt tg iter : Expr} {ifs : List Expr} {scope : Scope} {own : List (Str × Nat)} {pos spos : Pos} {wi : TI} {g : TG} {tt : TT} {te : TE} (hc : X.calm = true) (hst : X.stack = X.env :: X.outer) (hfr : X.env.frame = some X.env.locals)
    (tk : Takes X fun cls d _ H => EE cls d H) (hN : X.N.Nodup) (hy : X.N[i]? = some y) (hyl : X.env.scope.names.lookup y = some .local) (hsw : swapsWith (.ListComp elt [⟨tg, iter, ifs, 0⟩] scope pos) (some (.Name y py)) spos.line X.env = pure true)
    (hfree : ∀ z ∈ scope.names, z.2 ≠ .free) (hi : PI X tg iter wi) (ok : BlkOk X.N X.env.scope scope own)
    (hg : ∀ (s : Shared) (H : Hp) (C : Addr) (cl : List (Str × Addr)) (fp : List Addr), PG (X.blk s H scope (compEnvC scope cl C X.env) fp) tg g) (ht : ∀ (s : Shared) (H : Hp) (C : Addr) (cl : List (Str × Addr)) (fp : List Addr), PTs (X.blk s H scope (compEnvC scope cl C X.env) fp) ifs tt)
    (he : ∀ (s : Shared) (H : Hp) (C : Addr) (cl : List (Str × Addr)) (fp : List Addr) (xe : Value → Shared → Prop), (∀ σ, PassesAt (L2.CX X.prog X.w) ((X.blk s H scope (compEnvC scope cl C X.env) fp).wish xe) σ EE) → PE ((X.blk s H scope (compEnvC scope cl C X.env) fp).wish xe) elt te)
    (hs : ∀ x, foldedSetIterable iter X.env x = pure x := by intro _; rfl) :
    PS X (.Assign [.Name y py] (.ListComp elt [⟨tg, iter, ifs, 0⟩] scope pos) spos) (tAsg (tLc wi g tt te (own.map (·.2))) (gName i)) := by
  refine ⟨fun pins s σ H D I h => ?_⟩
  rw [exec_Assign_Name_used _ _ _ _ hsw]
  refine wpAny_bind (wpAny_standAt (wpAny_bind ?_))
  show wpAny _ X.A (do let _ ← comprehension (.ListComp elt [⟨tg, iter, ifs, 0⟩] scope pos) scope X.env (firstIterPos [⟨tg, iter, ifs, 0⟩] pos) (newList []) false (eval iter X.env) (some (assign (.Name y py) X.env))) _ _ s
  have want : tLc wi g tt te (own.map (·.2)) σ H (fun x H1 => gName i x σ H1 D.nx) := h
  have core : wpAny (model X.prog X.w) X.A (comprehension (.ListComp elt [⟨tg, iter, ifs, 0⟩] scope pos) scope X.env (firstIterPos [⟨tg, iter, ifs, 0⟩] pos) (newList []) false (eval iter X.env) (some (assign (.Name y py) X.env))) (fun _ st => SP X pins D .next st) X.xe s := by
    refine wpAny_comprehension_use rfl hs hfree ok.kind (fun z hz e => by rw [ok.uniq z hz, e]) (thn (hi.run pins s σ H _ I want) fun xv s1 hx => thn hx fun itv s2 h2 => ?_)
    obtain ⟨it, fp, tn, J, H2, e, I2, T, st2, f2, q⟩ := h2
    subst e
    refine wpAny_newObj_type (newEnv_comp ?_) (by show 0 ≤ sizeLine; decide)
    generalize hD : s2.heap.objs.size = L
    have nL : H2 L = none := I2.hok.fresh (Nat.le_of_eq hD)
    obtain ⟨W, ⟨m0, w0⟩, turn⟩ := q L nL
    generalize hs3 : ({ s2 with heap := s2.heap.push { cls := .type "list", data := .seq ([] : List Value).toArray } } : Shared) = s3
    have I3 : Inv X pins σ (upd H2 L (.lst [])) s3 := by
      rw [← hs3]
      refine I2.laid (t' := s2.toks) (fun b o e1 => Heap.get?_push_of_some _ e1) (Nat.le_of_eq hD) ⟨Nat.zero_le _, [], 0, .nil, ?_⟩
      rw [← hD]
      exact Heap.get?_push_size _ rfl
    have h3 : s3.heap = s2.heap.push { cls := .type "list", data := .seq ([] : List Value).toArray } := by rw [← hs3]
    have f3 : ∀ b ∈ fp, FpOk X pins (upd H2 L (.lst [])) b ∧ b < s3.heap.objs.size := fun b hb => by
      obtain ⟨o, e1, _⟩ := T.obj _ _ st2 b hb
      have lt := Heap.lt_size e1
      refine ⟨⟨?_, (f2 b hb).2⟩, by rw [h3, Heap.size_push]; exact Nat.lt_succ_of_lt lt⟩
      rw [upd_ne (by rw [← hD]; exact Nat.ne_of_lt lt)]
      exact (f2 b hb).1
    have st3 : tn 0 s3.heap := T.keep _ _ _ st2 fun b _ o e1 => by rw [h3]; exact Heap.get?_push_of_some _ e1
    have I4 := block_start I3 ok hN f3
    have ecl : cloFrom X.env.cells scope.names [] = [] := by
      cases q : cloFrom X.env.cells scope.names [] with
      | nil => rfl
      | cons z r =>
        obtain ⟨n, c⟩ := z
        rcases cloFrom_mem (n := n) (c := c) (by rw [q]; exact List.mem_cons_self) with h | ⟨h, _⟩
        · cases h
        · exact absurd rfl (hfree _ h)
    have erel : relabel scope X.env = scope := by
      unfold relabel
      have e1 : (scope.names.map fun (n, k) => if (k == NameKind.free && X.env.scope.kind == .function && X.env.kindOf n == some .cell) then (n, NameKind.cell) else (n, k)) = scope.names := by
        have : ∀ z ∈ scope.names, (fun z : Str × NameKind => if (z.2 == NameKind.free && X.env.scope.kind == .function && X.env.kindOf z.1 == some .cell) then (z.1, NameKind.cell) else (z.1, z.2)) z = id z := fun z hz => by
          have nf : (z.2 == NameKind.free) = false := by simpa using hfree z hz
          simp [nf]
        exact (List.map_congr_left this).trans (List.map_id _)
      rw [e1]
    have pg := hg s3 (upd H2 L (.lst [])) s3.heap.objs.size (cellsFrom (s3.heap.objs.size + 1) scope.names (cloFrom X.env.cells scope.names [])) fp
    have pt := ht s3 (upd H2 L (.lst [])) s3.heap.objs.size (cellsFrom (s3.heap.objs.size + 1) scope.names (cloFrom X.env.cells scope.names [])) fp
    have pe := fun xe => he s3 (upd H2 L (.lst [])) s3.heap.objs.size (cellsFrom (s3.heap.objs.size + 1) scope.names (cloFrom X.env.cells scope.names [])) fp xe
    have fpn : ∀ b ∈ fp, (upd H2 L (.lst [])) b = none := fun b hb => (f3 b hb).1.1
    have hce : ({ newEnv scope s3.heap.objs.size X.env.globals (cellsFrom (s3.heap.objs.size + 1) scope.names []) X.env.qual none .none (some X.env) builtinsNs with scope := scope } : Env) =
        compEnvC scope (cellsFrom (s3.heap.objs.size + 1) scope.names (cloFrom X.env.cells scope.names [])) s3.heap.objs.size X.env := by
      rw [ecl]
      unfold compEnvC
      rw [erel]
      rfl
    rw [hce]
    have cF : (compEnvC scope (cellsFrom (s3.heap.objs.size + 1) scope.names (cloFrom X.env.cells scope.names [])) s3.heap.objs.size X.env).frame = X.env.frame := rfl
    have cL : (compEnvC scope (cellsFrom (s3.heap.objs.size + 1) scope.names (cloFrom X.env.cells scope.names [])) s3.heap.objs.size X.env).locals = s3.heap.objs.size := rfl
    generalize compEnvC scope (cellsFrom (s3.heap.objs.size + 1) scope.names (cloFrom X.env.cells scope.names [])) s3.heap.objs.size X.env = ce at I4 pg pt pe cF cL ⊢
    generalize hH3 : upd H2 L (.lst []) = H3 at I3 I4 pg pt pe w0 fpn f3
    generalize hs4 : ({ s3 with heap := pushCells (s3.heap.push { cls := .type "dict", data := .dict #[] }) scope.names } : Shared) = s4 at I4 ⊢
    have st4 : tn 0 s4.heap := T.keep _ _ _ st3 fun b _ o e1 => by rw [← hs4]; exact pushCells_keeps _ _ _ _ (Heap.get?_push_of_some _ e1)
    refine codeAny_mono (R := blkEnd X (assign (.Name y py) X.env) (fun _ st => SP X pins D .next st) (.ref L) s3.heap.objs.size ce) ?_ fun r st hr => ?_
    · -- the turns
      have pass : ∀ σ', PassesAt (L2.CX X.prog X.w) ((X.blk s3 H3 scope ce fp).wish (notedBy (model X.prog X.w) X.A ce (outB X s3.heap.objs.size ce fun _ st => SP X pins D .next st))) σ' EE :=
        fun σ' pins' H' s' e1 s'' I1 cx => fly_out (scope := scope) (fp := fp) hst hfr tk I3 f3 cL cF I1 cx
      have stat : ∀ {σ' : L2.St} {H' : Hp} {s' : Shared}, Inv (X.blk s3 H3 scope ce fp) [] σ' H' s' → (∀ b ∈ fp, H' b = none) → ∀ b ∈ fp, FpOk (X.blk s3 H3 scope ce fp) [] H' b := fun {σ' H' s'} I1 hn b hb =>
        ⟨hn b hb, (I1.ok.exf b hb).1, I1.ok.exfs b hb, .inl hb, fun x c e1 => (I1.ok.exf b hb).2 x c e1, fun p hp => absurd (show p ∈ ([] : List (Addr × Obj)) ++ [] from hp) (by simp)⟩
      have loop : codeAny (model X.prog X.w) X.A (.compLoop (.ListComp elt [⟨tg, iter, ifs, 0⟩] scope pos) 0 (.ref it) (.ref L) ce) (blkEnd X (assign (.Name y py) X.env) (fun _ st => SP X pins D .next st) (.ref L) s3.heap.objs.size ce) s4 := by
        refine compLoop_any (fun n st => ∃ j H', Inv (X.blk s3 H3 scope ce fp) [] (wipe σ (own.map (·.2))) H' st ∧ tn j st.heap ∧ (∀ b ∈ fp, H' b = none) ∧ W j n H') ?_ m0 ⟨0, H3, I4, st4, fpn, w0⟩
        rintro n s5 ⟨j, H5, I5, st5, n5, w5⟩
        rcases turn j n H5 w5 with ⟨stop, qq⟩ | ⟨go, Nx, hNx, step⟩
        · have td := T.done (X.blk s3 H3 scope ce fp) rfl rfl rfl hc j [] s5 _ H5 (fun _ _ => False) I5 (stat I5 n5) st5 stop
          refine thnF td fun r s6 ⟨hr, I6⟩ => ?_
          subst hr
          have I7 : Inv X pins σ H5 s6 := I3.call' (ch := fp) I6.os I6.base I6.hok I6.bare fun b hb => ⟨(f3 b hb).1.2.2.2.1, (f3 b hb).1.2.1, (f3 b hb).1.2.2.2.2.1, (f3 b hb).1.2.2.2.2.2⟩
          have nC : H5 s3.heap.objs.size = none := by
            have z : H5 ce.locals = none := I6.free
            rw [cL] at z
            exact z
          obtain ⟨m, hn, _⟩ := I6.loc
          have hn : s6.heap.Ns ce.locals m := hn
          rw [cL] at hn
          have fC := I3.fpOk (H' := H5) (Nat.le_refl _) nC
          generalize s3.heap.objs.size = C at hn fC nC ⊢
          show wpAny _ _ (assign (.Name y py) X.env (.ref L)) _ _ _
          refine wpAny_assign_Name (store_ok2 (v := V.ref L) I7 hN hy (.inl hyl) rfl (fun s8 I8 ⟨a, sb, ha⟩ => ?_) (.inr hyl))
          obtain ⟨c0, c1, c2, c3, c4, c5⟩ := fC
          have neC : C ≠ a := by
            rcases ha with z | z
            · rw [z]
              exact c1
            · exact fun e1 => c4 y a z e1.symm
          refine ⟨m, hn.sameBut sb neC, fun h9 sb9 => ?_⟩
          exact ⟨_, H5, I8.turned (t' := s8.toks) (fun b o hb e1 => (sb9.2 b hb).trans e1) c0 c1 c3 c4 c5, qq⟩
        · have ti := T.item (X.blk s3 H3 scope ce fp) rfl rfl rfl hc j [] s5 _ H5 (fun _ _ => False) I5 (stat I5 n5) st5 go
          refine thnF ti fun r s6 ⟨u, hr, h6⟩ => ?_
          subst hr
          refine thnF h6 fun _ s7 ⟨x, H7, I7, r7, y7, st7, n7⟩ => ?_
          have I7' := I7.pinned (stat I7 n7) (T.obj _ _ st7)
          refine thnF (pg.run _ s7 _ H7 x u _ I7' r7 (step x H7 y7)) fun _ s8 ⟨σ8, H8, I8, hw8, q8⟩ => ?_
          refine thnF (pt.run _ s8 σ8 H8 _ I8 q8) fun b s9 ⟨H9, I9, q9⟩ => ?_
          have fin : ∀ {s' : Shared} {H' : Hp}, Inv (X.blk s3 H3 scope ce fp) ([] ++ pinsAt fp s7.heap) σ8 H' s' → Nx H' → ∃ m, m < n ∧ ∃ j H', Inv (X.blk s3 H3 scope ce fp) [] (wipe σ (own.map (·.2))) H' s' ∧ tn j s'.heap ∧ (∀ b ∈ fp, H' b = none) ∧ W j m H' := fun {s' H'} I1 nx => by
            obtain ⟨m', hm, w'⟩ := hNx H' nx
            have held : ∀ b ∈ fp, ∀ o, s7.heap.get? b = some o → s'.heap.get? b = some o ∧ H' b = none := fun b hb o e1 =>
              let z := I1.pin (b, o) (List.mem_append_right _ (List.mem_append_right _ (mem_pinsAt hb e1)))
              ⟨z.1, z.2.1⟩
            have hl : (wipe σ (own.map (·.2))).length = σ8.length := by rw [← hw8, wipe_length]
            refine ⟨m', hm, j + 1, H', (I1.unpinned (pins := [])).weak hl (fun k v e1 => ?_), T.keep _ _ _ st7 fun b hb o e1 => (held b hb o e1).1, fun b hb => ?_, w'⟩
            · rw [← hw8] at e1
              exact (wipe_some e1).1
            · obtain ⟨o, e1, _⟩ := T.obj _ _ st7 b hb
              exact (held b hb o e1).2
          cases b with
          | false =>
            simp only [Bool.false_eq_true, if_false] at q9 ⊢
            exact fin I9 q9
          | true =>
            simp only [if_true] at q9 ⊢
            refine thn ((pe _ pass).run _ s9 σ8 H9 _ (I9.wish _) q9) fun z s10 ⟨yv, H10, I10, r10, acc, hD10, hz10, nx⟩ => ?_
            exact app_ok (X := X.blk s3 H3 scope ce fp) (Inv.unwish (X := X.blk s3 H3 scope ce fp) I10) hD10 hz10 r10 fun s11 I11 => fin I11 nx
      exact codeAny_compStart_list loop (T.self X.A 0 _ _ _ st4 loop)
    · cases r with
      | ok f => exact hr
      | error x => exact hr
  exact wpAny_bind (wpAny_mono core (fun _ st hq => wpAny_pure (wpAny_pure hq)) fun _ _ z => z)
theorem Ec.makeN {X : Cx} {x : Str} {C : Addr} (e : Ec X.K X.mg x C) {m : Str} {j : Nat} {p p2 pos : Pos} (hx : Gl X x := by rfl) (hd : (x == ("__debug__" : Str)) = false := by decide) :
    L2N.PMk X (.Call (.Name x p) [.Constant (.str m) j p2] [] pos) (fun _ H Q => Q (.ref C) none H) :=
  L2N.pmk_own PySem.F.excBase_ValueError e.exc e.g e.kp (raises_own e.bs e.ty) hx hd
/-- a def that raises where nothing is handled: its errors have no context -/
theorem okN {P : Program} {w : World} {K : PySem.W.Frag} {mg : Str → Option Value} {base : Heap} {x qual : Str} {st : Stmt} {f : Addr} {fd : FuncData} {N ps : List Str} {k : Nat} {sp : Sp} (F : Fun K x qual st f fd) (S : FnScope N ps (defScope st)) (len : ∀ vs H Q E, sp vs H Q E → vs.length = ps.length)
    (body : ∀ (cdv : Value) (A : Around) (out : List Env) (s : Shared) (H : Hp) (vs : List V) (Q : VK) (E : XK), Room k (A.deeper (envOfC qual (defScope st) s.heap.objs.size f cdv)) → sp vs H Q E →
      ∃ t, PSs (cxOf (L2N.CX P w) P w K mg base N qual (defScope st) f cdv A out s H E) (defBody st) t ∧ t { nx := fun _ H' => Q .non H', rt := Q } (start N vs) H) : FnOk P w K mg base (L2N.CX P w) (k + 1) f fd ps sp := by
  obtain ⟨oc, od, kV, doc, pm, an, cdv, ct, osl, rfl, lk, hcd⟩ := F.ex
  exact fn_of lk hcd S len fun A out s H vs Q E hr want => body cdv A out s H vs Q E hr want
theorem pcallN {X : Cx} {k j : Nat} {x : Str} {ps : List Str} {sp : Sp} {p pos : Pos} {e : Expr} {es : List Expr} {t : TA} {W : WX} (C : Fn X.prog X.w X.K X.mg X.base (L2N.CX X.prog X.w) k x ps sp) (tk : L2N.Takes X W) (hr : Room j X.A) (ha : PA X (e :: es) t) (hkj : k ≤ j := by decide) (hg : Gl X x := by rfl)
    (hdb : (x == ("__debug__" : Str)) = false := by decide) (he : starEach (e :: es) X.env = (false, eval e X.env) :: starEach es X.env := by rfl) (hpl : (backTo pos (starEach es X.env)).any (·.1) = false := by rfl) : PE X (.Call (.Name x p) (e :: es) [] pos) (tCallS sp (WE W) t) :=
  pe_callS C.ok (hr.mono hkj) hg C.g C.kp C.b (fun σ => L2N.passAt tk σ) ha hdb he hpl
end Tw
namespace Tw
open PySem PySem.Spec PyProof.Rows L2
def top (i : Nat) : Stmt := PySem.Challenge.pw_twoline_k12_points_read_or_refused.main.body.getD i (.Pass ⟨0, 0, 0, 0⟩)
abbrev s_LineError : Stmt := top 1
abbrev s_SamePoint : Stmt := top 2
abbrev s_BadPoints : Stmt := top 3
abbrev s_BadText : Stmt := top 4
abbrev s_see_points : Stmt := top 8
abbrev s_number_of : Stmt := top 12
abbrev s_point_of : Stmt := top 13
abbrev s_read : Stmt := top 14
abbrev s__law_cell_at : Stmt := top 16
abbrev s__law_whole : Stmt := top 17
abbrev s__law_point_by : Stmt := top 18
abbrev s__law_points_by : Stmt := top 19
abbrev s__law_set : Stmt := top 20
abbrev s__law_is_tuple : Stmt := top 21
abbrev s__law_text : Stmt := top 22
abbrev s__law_is_points : Stmt := top 23
abbrev s__law_sign_by : Stmt := top 24
abbrev s__law_marks_of : Stmt := top 25
abbrev s__law_spoiled : Stmt := top 26
abbrev s__law_number : Stmt := top 27
abbrev s__law_due : Stmt := top 28
abbrev s_law : Stmt := top 29
section
variable {P : Program} {w : World} {K : PySem.W.Frag} {mg : Str → Option Value} {base : Heap}
/-! _law_cell_at, _law_whole -/
def spCell (K : PySem.W.Frag) : Sp := fun vs H Q _ => ∃ (a : Addr) (ns : List Int) (k : Int), vs = [.ref a, .int k] ∧ SqL K H a (ns.map V.int) ∧ 0 ≤ k ∧ ∀ n : Int, Q (.int n) H
theorem sc__law_cell_at : FnScope ["script", "k"] ["script", "k"] (defScope s__law_cell_at) := ⟨rfl, rfl, rfl, by decide +kernel, rfl, by decide +kernel, by decide +kernel⟩
theorem ok__law_cell_at (D : Df K mg "_law_cell_at" s__law_cell_at ["script", "k"]) (B : Bl mg) : FnOk P w K mg base CX0 1 D.f D.fd ["script", "k"] (spCell K) := by
  refine D.F.ok sc__law_cell_at (fun vs H Q E h => ?_) (fun cdv A outer s H vs Q E hr h => ?_)
  · obtain ⟨a, ns, k, rfl, _⟩ := h
    rfl
  · obtain ⟨a, ns, k, rfl, hS, hk, q⟩ := h
    refine ⟨_, pss_cons (ps_if (pt_cmpR op_lt (pv 1) (pe_callB call_len_seq (by rfl) B.len PySem.boot_len (pa_cons (pv 0) pa_nil)) (nomark _)) (pss_one (ps_ret (pe_ix ix_list (pv 0) (pv 1) (fun _ _ => rfl)))) pss_nil)
      (pss_one (ps_ret pe_int)), ?_⟩
    refine ⟨_, rfl, _, rfl, a, _, rfl, .inl hS, _, _, rfl, rfl, _, rfl, ite2 (fun hc => ?_) (fun hc => q _)⟩
    have hlt : k < ((ns.map V.int).length : Int) := of_decide_eq_true hc
    have hn : k.toNat < ns.length := by rw [List.length_map] at hlt; omega
    refine ⟨_, rfl, _, rfl, _, _, _, .int ns[k.toNat], rfl, rfl, hS, at_of (j := k.toNat) (by omega) ?_, q _⟩
    rw [List.getElem?_map, List.getElem?_eq_getElem hn]
    rfl
/-! _law_whole -/
def spWhole : Sp := fun vs H Q _ => ∃ n : Int, vs = [.int n] ∧ Q (.bl true) H
theorem sc__law_whole : FnScope ["found"] ["found"] (defScope s__law_whole) := ⟨rfl, rfl, rfl, by decide +kernel, rfl, by decide +kernel, by decide +kernel⟩
theorem ok__law_whole (D : Df K mg "_law_whole" s__law_whole ["found"]) (B : Bl mg) : FnOk P w K mg base CX0 1 D.f D.fd ["found"] spWhole := by
  refine D.F.ok sc__law_whole (fun vs H Q E h => ?_) (fun cdv A outer s H vs Q E hr h => ?_)
  · obtain ⟨n, rfl, _⟩ := h
    rfl
  · obtain ⟨n, rfl, q⟩ := h
    refine ⟨_, pss_one (ps_ret (pe_and (pe_callB call_isi (by rfl) B.isinstance boot_isinstance (pa_cons (pv 0) (pa_cons (pe_bltn (v := .ty "int") (by rfl) B.int boot_int rfl) pa_nil)))
      (pe_one (pe_not (pe_callB call_isi (by rfl) B.isinstance boot_isinstance (pa_cons (pv 0) (pa_cons (pe_bltn (v := .ty "bool") (by rfl) B.bool boot_bool rfl) pa_nil))))))), ?_⟩
    refine ⟨_, rfl, _, _, _, _, true, rfl, .ty "int", .base (.int n), kit_ty (by decide +kernel), true, rfl, iteT ?_⟩
    exact ⟨_, rfl, _, _, _, _, false, rfl, .ty "bool", .base (.int n), kit_ty (by decide +kernel), false, rfl, q⟩
/-! _law_is_tuple -/
def spIsT (K : PySem.W.Frag) : Sp := fun vs H Q _ => ∃ (t : Addr) (v : V) (ns ms : List Int), vs = [.ref t, v] ∧ H t = some (.tup (ns.map V.int)) ∧ Tp K H v (ms.map V.int) ∧ Q (.bl (decide (ns = ms))) H
theorem sc__law_is_tuple : FnScope ["found", "due", "number"] ["found", "due"] (defScope s__law_is_tuple) := ⟨rfl, rfl, rfl, by decide +kernel, rfl, by decide +kernel, by decide +kernel⟩
theorem ok__law_is_tuple (D : Df K mg "_law_is_tuple" s__law_is_tuple ["found", "due"]) (B : Bl mg) (C : Fn P w K mg base CX0 1 "_law_whole" ["found"] spWhole) : FnOk P w K mg base CX0 2 D.f D.fd ["found", "due"] (spIsT K) := by
  refine D.F.ok sc__law_is_tuple (fun vs H Q E h => ?_) (fun cdv A outer s H vs Q E hr h => ?_)
  · obtain ⟨t, v, ns, ms, rfl, _⟩ := h
    rfl
  · obtain ⟨t, _, ns, ms, rfl, ht, ⟨d, rfl, hd⟩, q⟩ := h
    have nd := sc__law_is_tuple.nd
    refine ⟨_, pss_cons (ps_if (PW.pt (pw_or (pt_not (pt_val (pe_callB call_isi (by rfl) B.isinstance boot_isinstance (pa_cons (pv 0) (pa_cons (pe_bltn (v := .ty "tuple") (by rfl) B.tuple boot_tuple rfl) pa_nil)))))
        (pw_or1 (pt_cmpR op_ne (pe_callB call_len_seq (by rfl) B.len PySem.boot_len (pa_cons (pv 0) pa_nil)) (pe_callB call_len_seq (by rfl) B.len PySem.boot_len (pa_cons (pv 1) pa_nil)) (nomark _))))) (pss_one (ps_ret pe_bl)) pss_nil)
      (pss_cons (ps_for PassesOwn.never rfl (pi_tup (pv 0)) (pgn 2 nd) (pss_one (ps_if (pt_not (pt_val (pcall C hr (pa_cons (pv 2) pa_nil)))) (pss_one (ps_ret pe_bl)) pss_nil)))
      (pss_one (ps_ret (pe_cmpR (op_eqD hr.units) (pv 0) (pv 1) (nomark _))))), ?_⟩
    refine ⟨_, rfl, _, _, _, _, true, rfl, .ty "tuple", .base (.tup ht), kit_ty (by decide +kernel), true, rfl, iteF ?_⟩
    refine ⟨_, rfl, t, _, rfl, .inr (SqT.of ht), _, rfl, d, _, rfl, .inr hd, rfl, _, rfl, ite2 (fun hc => ?_) (fun hc => ?_)⟩
    · have ne : ¬ ns = ms := fun e => by
        rw [e, decide_eq_true rfl] at hc
        cases hc
      rw [decide_eq_false ne] at q
      exact q
    · refine ⟨_, rfl, t, rfl, ⟨_, SqT.of ht⟩, for_tup (K := K) (a := t) (xs := ns.map V.int) (fun i σ H' => H' = H ∧ ∃ r : Option V, σ = [some (.ref t), some (.ref d), r]) ⟨rfl, none, rfl⟩ (fun i σ H' _ ⟨e, _⟩ => by rw [e]; exact SqT.of ht) ?_ ?_⟩
      · rintro i y σ H' hi ⟨rfl, r, rfl⟩
        obtain ⟨n, hn, rfl⟩ := item_int hi
        refine ⟨_, rfl, n, rfl, true, rfl, iteF ?_⟩
        exact ⟨rfl, _, rfl⟩
      · rintro σ H' ⟨rfl, r, rfl⟩
        refine ⟨_, rfl, _, rfl, tiD ns, tiD ms, tp_dp ⟨t, rfl, SqT.of ht⟩, tp_dp ⟨d, rfl, hd⟩, tiD_shaped ns, tiD_shaped ms, ?_⟩
        rw [tiD_eqv]
        exact q
/-! _law_point_by -/
theorem pick4 (a b c d : Int) (i : Int) : ∃ x, atI [V.int a, V.int b, V.int c, V.int d] (i % 4) = some (.int x) ∧ (x = a ∨ x = b ∨ x = c ∨ x = d) := by
  have h : i % 4 = ((0 : Nat) : Int) ∨ i % 4 = ((1 : Nat) : Int) ∨ i % 4 = ((2 : Nat) : Int) ∨ i % 4 = ((3 : Nat) : Int) := by omega
  rcases h with h | h | h | h
  · exact ⟨a, at_of h rfl, .inl rfl⟩
  · exact ⟨b, at_of h rfl, .inr (.inl rfl)⟩
  · exact ⟨c, at_of h rfl, .inr (.inr (.inl rfl))⟩
  · exact ⟨d, at_of h rfl, .inr (.inr (.inr rfl))⟩
theorem cpow6 : CPow 10 6 := ⟨by decide, by decide, by decide⟩
def spPointBy : Sp := fun vs H Q _ => ∃ i j k : Int, vs = [.int i, .int j, .int k] ∧ ∀ H' t p, Same H H' → H t = none → H' t = some (.tup [.int (Prod.fst (α := Int) (β := Int) p), .int p.2]) → Ok p → Q (.ref t) H'
theorem sc__law_point_by : FnScope ["one", "two", "way", "step"] ["one", "two", "way"] (defScope s__law_point_by) := ⟨rfl, rfl, rfl, by decide +kernel, rfl, by decide +kernel, by decide +kernel⟩
theorem ok__law_point_by (D : Df K mg "_law_point_by" s__law_point_by ["one", "two", "way"]) : FnOk P w K mg base CX0 1 D.f D.fd ["one", "two", "way"] spPointBy := by
  refine D.F.ok sc__law_point_by (fun vs H Q E h => ?_) (fun cdv A outer s H vs Q E hr h => ?_)
  · obtain ⟨i, j, k, rfl, _⟩ := h
    rfl
  · obtain ⟨i, j, k, rfl, q⟩ := h
    have nd := sc__law_point_by.nd
    have l2 : 2 ≤ sizeLine := by decide
    refine ⟨_, pss_cons (ps_if (pt_cmpR op_eq (pv 2) pe_int (nomark _)) (pss_one (ps_ret (pe_tup (pa_cons (pe_op op_mod (pv 0) pe_int) (pa_cons (pe_op op_mod (pv 1) pe_int) pa_nil))))) pss_nil)
      (pss_cons (ps_if (pt_cmpR op_eq (pv 2) pe_int (nomark _)) (pss_one (ps_ret (pe_tup (pa_cons (pe_op op_sub (pe_op op_mod (pv 0) pe_int) pe_int) (pa_cons (pe_op op_sub (pe_op op_mod (pv 1) pe_int) pe_int) pa_nil))))) pss_nil)
      (pss_cons (ps_if (pt_cmpR op_eq (pv 2) pe_int (nomark _)) (pss_one (ps_ret (pe_tup (pa_cons (pe_op op_sub (pe_op op_mod (pv 0) pe_int) (pe_op op_pow pe_int pe_int)) (pa_cons (pe_op op_sub (pe_op op_mod (pv 1) pe_int) (pe_op op_pow pe_int pe_int)) pa_nil))))) pss_nil)
      (pss_cons (ps_if (pt_cmpR op_eq (pv 2) pe_int (nomark _)) (pss_one (ps_ret (pe_tup (pa_cons (pe_op op_sub (pe_op op_mod (pv 0) pe_int) pe_int)
        (pa_cons (pe_op op_add (pe_op op_add (pe_op op_mul pe_int (pe_op op_sub (pe_op op_mod (pv 0) pe_int) pe_int)) (pe_op op_mul pe_int (pe_op op_mod (pv 1) pe_int))) pe_int) pa_nil))))) pss_nil)
      (pss_cons (ps_if (pt_cmpR op_eq (pv 2) pe_int (nomark _)) (pss_one (ps_ret (pe_tup (pa_cons
          (pe_ix ix_list (pe_lst (pa_cons (pe_op op_pow pe_int pe_int) (pa_cons (pe_un un_neg (pe_op op_pow pe_int pe_int)) (pa_cons pe_int (pa_cons (pe_op op_sub (pe_op op_pow pe_int pe_int) pe_int) pa_nil))))) (pe_op op_mod (pv 0) pe_int) (fun _ _ => rfl))
        (pa_cons (pe_ix ix_list (pe_lst (pa_cons (pe_op op_pow pe_int pe_int) (pa_cons (pe_un un_neg (pe_op op_pow pe_int pe_int)) (pa_cons pe_int (pa_cons (pe_op op_mod (pv 1) pe_int) pa_nil))))) (pe_op op_mod (pv 1) pe_int) (fun _ _ => rfl)) pa_nil))))) pss_nil)
      (pss_cons (pset 3 nd (pe_op op_sub (pe_op op_mod (pv 0) pe_int) pe_int))
      (pss_cons (ps_if (pt_cmpR op_eq (pe_op op_mod (pv 1) pe_int) pe_int (nomark _)) (pss_one (ps_ret (pe_tup (pa_cons (pe_op op_mul pe_int (pv 3)) (pa_cons (pe_op op_add (pe_op op_mul pe_int (pv 3)) pe_int) pa_nil))))) pss_nil)
      (pss_cons (ps_if (pt_cmpR op_eq (pe_op op_mod (pv 1) pe_int) pe_int (nomark _)) (pss_one (ps_ret (pe_tup (pa_cons (pe_op op_mul pe_int (pv 3)) (pa_cons (pe_op op_sub pe_int (pe_op op_mul pe_int (pv 3))) pa_nil))))) pss_nil)
      (pss_one (ps_ret (pe_tup (pa_cons (pe_op op_mul pe_int (pv 3)) (pa_cons (pe_op op_sub pe_int (pe_op op_mod (pe_op op_fdiv (pv 1) pe_int) pe_int)) pa_nil)))))))))))), ?_⟩
    refine ⟨_, rfl, rfl, _, rfl, ite2 (fun _ => ?_) (fun _ => ?_)⟩
    · refine ⟨_, rfl, _, _, rfl, rfl, (by show (0 : Int) < _; decide), _, rfl, _, _, rfl, rfl, (by show (0 : Int) < _; decide), l2, fun t nt => ?_⟩
      exact q _ t (i % 4, j % 4) (same_new nt) nt upd_same (by unfold Ok; dsimp only; omega)
    refine ⟨_, rfl, rfl, _, rfl, ite2 (fun _ => ?_) (fun _ => ?_)⟩
    · refine ⟨_, rfl, _, _, rfl, rfl, (by show (0 : Int) < _; decide), _, _, rfl, rfl, _, rfl, _, _, rfl, rfl, (by show (0 : Int) < _; decide), _, _, rfl, rfl, l2, fun t nt => ?_⟩
      exact q _ t (i % 7 - 3, j % 3 - 1) (same_new nt) nt upd_same (by unfold Ok; dsimp only; omega)
    refine ⟨_, rfl, rfl, _, rfl, ite2 (fun _ => ?_) (fun _ => ?_)⟩
    · refine ⟨_, rfl, _, _, rfl, rfl, (by show (0 : Int) < _; decide), _, _, rfl, rfl, cpow6, _, _, rfl, rfl, _, rfl, _, _, rfl, rfl, (by show (0 : Int) < _; decide), _, _, rfl, rfl, cpow6, _, _, rfl, rfl, l2, fun t nt => ?_⟩
      exact q _ t (i % 2000001 - 1000000, j % 2000001 - 1000000) (same_new nt) nt upd_same (by unfold Ok; dsimp only; omega)
    refine ⟨_, rfl, rfl, _, rfl, ite2 (fun _ => ?_) (fun _ => ?_)⟩
    · refine ⟨_, rfl, _, _, rfl, rfl, (by show (0 : Int) < _; decide), _, _, rfl, rfl, _, rfl, _, _, rfl, rfl, (by show (0 : Int) < _; decide), _, _, rfl, rfl, _, _, rfl, rfl, .inl ⟨by decide, by decide⟩, _, rfl, _, _, rfl, rfl, (by show (0 : Int) < _; decide), _, _, rfl, rfl, .inl ⟨by decide, by decide⟩, _, _, rfl, rfl, _, _, rfl, rfl, l2, fun t nt => ?_⟩
      exact q _ t (i % 41 - 20, 3 * (i % 41 - 20) + 5 * (j % 2) + 1) (same_new nt) nt upd_same (by unfold Ok; dsimp only; omega)
    refine ⟨_, rfl, rfl, _, rfl, ite2 (fun _ => ?_) (fun _ => ?_)⟩
    · obtain ⟨x, hx, ex⟩ := pick4 1000000 (-1000000) 0 999999 i
      obtain ⟨y, hy, ey⟩ := pick4 1000000 (-1000000) 1 (j % 9) j
      refine ⟨_, _, rfl, rfl, cpow6, _, _, rfl, rfl, cpow6, _, rfl, _, _, rfl, rfl, cpow6, _, _, rfl, rfl, (by show 4 ≤ sizeLine; decide), fun a na => ?_⟩
      refine ⟨_, rfl, _, _, rfl, rfl, (by show (0 : Int) < _; decide), _, _, _, _, rfl, rfl, SqL.of upd_same, hx, ?_⟩
      refine ⟨_, _, rfl, rfl, cpow6, _, _, rfl, rfl, cpow6, _, rfl, _, rfl, _, _, rfl, rfl, (by show (0 : Int) < _; decide), (by show 4 ≤ sizeLine; decide), fun b nb => ?_⟩
      refine ⟨_, rfl, _, _, rfl, rfl, (by show (0 : Int) < _; decide), _, _, _, _, rfl, rfl, SqL.of upd_same, hy, l2, fun t nt => ?_⟩
      have S1 : Same H (upd H a (.lst [V.int 1000000, V.int (-1000000), V.int 0, V.int 999999])) := same_new na
      have S2 := S1.trans (same_new (o := .lst [V.int 1000000, V.int (-1000000), V.int 1, V.int (j % 9)]) nb)
      have S3 := S2.trans (same_new (o := .tup [V.int x, V.int y]) nt)
      exact q _ t (x, y) S3 (S2.free nt) upd_same (by unfold Ok; dsimp only; omega)
    refine ⟨_, rfl, _, _, rfl, rfl, (by show (0 : Int) < _; decide), _, _, rfl, rfl, ?_⟩
    refine ⟨_, rfl, _, _, rfl, rfl, (by show (0 : Int) < _; decide), rfl, _, rfl, ite2 (fun _ => ?_) (fun _ => ?_)⟩
    · refine ⟨_, rfl, _, _, rfl, rfl, .inl ⟨by decide, by decide⟩, _, rfl, _, _, rfl, rfl, .inl ⟨by decide, by decide⟩, _, _, rfl, rfl, l2, fun t nt => ?_⟩
      exact q _ t (250000 * (i % 9 - 4), 100000 * (i % 9 - 4) + 7) (same_new nt) nt upd_same (by unfold Ok; dsimp only; omega)
    refine ⟨_, rfl, _, _, rfl, rfl, (by show (0 : Int) < _; decide), rfl, _, rfl, ite2 (fun _ => ?_) (fun _ => ?_)⟩
    · refine ⟨_, rfl, _, _, rfl, rfl, .inl ⟨by decide, by decide⟩, _, rfl, _, _, rfl, rfl, .inl ⟨by decide, by decide⟩, _, _, rfl, rfl, l2, fun t nt => ?_⟩
      exact q _ t (100000 * (i % 9 - 4), 7 - 200000 * (i % 9 - 4)) (same_new nt) nt upd_same (by unfold Ok; dsimp only; omega)
    · refine ⟨_, rfl, _, _, rfl, rfl, .inl ⟨by decide, by decide⟩, _, rfl, _, _, rfl, rfl, ⟨by decide, by decide⟩, _, _, rfl, rfl, (by show (0 : Int) < _; decide), _, _, rfl, rfl, l2, fun t nt => ?_⟩
      exact q _ t (1000 * (i % 9 - 4), 999999 - j / 3 % 5) (same_new nt) nt upd_same (by unfold Ok; dsimp only; omega)
/-! see_points, where it refuses nothing -/
structure Gc (mg : Str → Option Value) : Prop where
  far : ∃ t, mg "FARTHEST" = some (.int 1000000 t)
  most : ∃ t, mg "MOST" = some (.int 20 t)
def kInts (ks : List (Addr × P2)) : List (Addr × List Int) := ks.map fun k => (k.1, [k.2.1, k.2.2])
theorem kInts_refs (ks : List (Addr × P2)) : (kInts ks).map (fun p => V.ref p.1) = ks.map fun k => V.ref k.1 := by
  unfold kInts
  rw [List.map_map]
  rfl
theorem pairL_inj {p q : P2} (h : [p.1, p.2] = [q.1, q.2]) : p = q := by
  injection h with h1 h
  injection h with h2 _
  exact Prod.ext h1 h2
/-- all of unlike points are in their set -/
theorem set_len {ks : List (Addr × P2)} {L : List (Addr × List Int)} (hn : (ptsOf ks).Nodup) (hall : ∀ p ∈ kInts ks, p.2 ∈ L.map (·.2)) : ks.length ≤ L.length := by
  have h1 : ((ptsOf ks).map fun p => [p.1, p.2]).Nodup := by
    unfold List.Nodup
    rw [List.pairwise_map]
    exact List.Pairwise.imp (fun h e => h (pairL_inj e)) hn
  have h2 := nodup_sub_length h1 (B := L.map (·.2)) (fun x hx => by
    obtain ⟨p, hp, rfl⟩ := List.mem_map.mp hx
    obtain ⟨k, hk, rfl⟩ := List.mem_map.mp hp
    exact hall (k.1, [k.2.1, k.2.2]) (List.mem_map.mpr ⟨k, hk, rfl⟩))
  rw [List.length_map, List.length_map] at h2
  have h3 : (ptsOf ks).length = ks.length := List.length_map _
  omega
def spSee (K : PySem.W.Frag) : Sp := fun vs H Q _ => ∃ (a : Addr) (ks : List (Addr × P2)), vs = [.ref a] ∧ PtsL H a ks ∧ PsOk (ptsOf ks) ∧ ks.length ≤ 20 ∧ Q .non H
theorem sc_see_points : FnScope ["points", "x", "y"] ["points"] (defScope s_see_points) := ⟨rfl, rfl, rfl, by decide +kernel, rfl, by decide +kernel, by decide +kernel⟩
theorem ok_see_points (D : Df K mg "see_points" s_see_points ["points"]) (B : Bl mg) (G : Gc mg) : FnOk P w K mg base CX0 1 D.f D.fd ["points"] (spSee K) := by
  refine D.F.ok sc_see_points (fun vs H Q E h => ?_) (fun cdv A outer s H vs Q E hr h => ?_)
  · obtain ⟨a, ks, rfl, _⟩ := h
    rfl
  · obtain ⟨a, ks, rfl, L, pok, h20, q⟩ := h
    have nd := sc_see_points.nd
    obtain ⟨tf, hfar⟩ := G.far
    obtain ⟨tm, hmost⟩ := G.most
    refine ⟨_, pss_cons (ps_if (PW.pt (pw_or (pt_cmpR op_lt (pe_callB call_len_seq (by rfl) B.len PySem.boot_len (pa_cons (pv 0) pa_nil)) pe_int (nomark _))
        (pw_or1 (pt_cmpR op_gt (pe_callB call_len_seq (by rfl) B.len PySem.boot_len (pa_cons (pv 0) pa_nil)) (pe_glob (v := .int 20) rfl hmost ⟨_, rfl⟩) (nomark _))))) (pss_one ps_never) pss_nil)
      (pss_cons (ps_for PassesOwn.never rfl (pi_list (pv 0)) (pg_tup rfl (pgs_cons (pgn 1 nd) (pgs_cons (pgn 2 nd) pgs_nil)))
        (pss_one (ps_if (PW.pt (pw_or (pt_cmpR op_gt (pe_callB call_abs (by rfl) B.abs boot_abs (pa_cons (pv 1) pa_nil)) (pe_glob (v := .int 1000000) rfl hfar ⟨_, rfl⟩) (nomark _))
          (pw_or1 (pt_cmpR op_gt (pe_callB call_abs (by rfl) B.abs boot_abs (pa_cons (pv 2) pa_nil)) (pe_glob (v := .int 1000000) rfl hfar ⟨_, rfl⟩) (nomark _))))) (pss_one ps_never) pss_nil)))
      (pss_one (ps_if (pt_cmpR op_lt (pe_lenSetT rfl hr.units (by rfl) B.len (by rfl) B.set (pv 0)) (pe_callB call_len_seq (by rfl) B.len PySem.boot_len (pa_cons (pv 0) pa_nil)) (nomark _)) (pss_one ps_never) pss_nil))), ?_⟩
    have hlen : (ks.map fun k => V.ref k.1).length = ks.length := List.length_map _
    have h2 := pok.two
    have hpl : (ptsOf ks).length = ks.length := List.length_map _
    refine ⟨_, rfl, a, _, rfl, .inl (SqL.of L.lst), _, _, rfl, rfl, _, rfl, ifF (decide_eq_false (by rw [hlen]; omega)) ?_⟩
    refine ⟨_, rfl, a, _, rfl, .inl (SqL.of L.lst), _, _, rfl, rfl, _, rfl, ifF (decide_eq_false (by rw [hlen]; omega)) ?_⟩
    refine ⟨_, rfl, a, rfl, ⟨_, SqL.of L.lst⟩, for_list (K := K) (a := a) (xs := ks.map fun k => V.ref k.1) (fun i σ H' => H' = H ∧ ∃ u v, σ = [some (.ref a), u, v]) ⟨rfl, none, none, rfl⟩ (fun i σ H' _ ⟨e, _⟩ => by rw [e]; exact SqL.of L.lst) ?_ ?_⟩
    · rintro i y σ H' hi ⟨rfl, u, v, rfl⟩
      obtain ⟨k, hk, rfl⟩ := List.mem_map.mp (List.mem_of_getElem? hi)
      obtain ⟨o1, o2, o3, o4⟩ := pok.ok k.2 (List.mem_map.mpr ⟨k, hk, rfl⟩)
      refine ⟨k.1, _, rfl, SqT.of (L.tup k hk), rfl, _, _, rfl, _, _, rfl, rfl, ?_⟩
      refine ⟨_, rfl, _, rfl, _, _, rfl, rfl, _, rfl, ifF (decide_eq_false (by split <;> omega)) ?_⟩
      refine ⟨_, rfl, _, rfl, _, _, rfl, rfl, _, rfl, ifF (decide_eq_false (by split <;> omega)) ?_⟩
      exact ⟨rfl, _, _, rfl⟩
    · rintro σ H' ⟨rfl, u, v, rfl⟩
      refine ⟨_, rfl, a, kInts ks, rfl, by rw [kInts_refs]; exact SqL.of L.lst, fun p hp => ?_, ?_, fun L' hs hall hnd => ?_⟩
      · obtain ⟨k, hk, rfl⟩ := List.mem_map.mp hp
        exact SqT.of (L.tup k hk)
      · unfold kInts
        rw [List.length_map]
        omega
      · have := set_len pok.nd hall
        exact ⟨_, rfl, a, _, rfl, .inl (SqL.of L.lst), _, _, rfl, rfl, _, rfl, ifF (decide_eq_false (by rw [hlen]; omega)) q⟩
/-! _law_points_by -/
def spPointsBy (K : PySem.W.Frag) : Sp := fun vs H Q _ => ∃ (a : Addr) (ns : List Int) (st cnt way : Int), vs = [.ref a, .int st, .int cnt, .int way] ∧ SqL K H a (ns.map V.int) ∧ 0 ≤ st ∧ 0 ≤ cnt ∧ cnt ≤ 100 ∧
  ∀ H' p ks, Same H H' → H p = none → PtsL H' p ks → (∀ k ∈ ks, H k.1 = none) → PsOk (ptsOf ks) → ((ks.length : Int) ≤ cnt ∨ ks.length ≤ 2) → Q (.ref p) H'
theorem sc__law_points_by : FnScope ["script", "start", "count", "way", "points", "k", "point", "more"] ["script", "start", "count", "way"] (defScope s__law_points_by) := ⟨rfl, rfl, rfl, by decide +kernel, rfl, by decide +kernel, by decide +kernel⟩
theorem ok__law_points_by (D : Df K mg "_law_points_by" s__law_points_by ["script", "start", "count", "way"]) (B : Bl mg) (C : Fn P w K mg base CX0 1 "_law_cell_at" ["script", "k"] (spCell K))
    (F : Fn P w K mg base CX0 1 "_law_point_by" ["one", "two", "way"] spPointBy) : FnOk P w K mg base CX0 2 D.f D.fd ["script", "start", "count", "way"] (spPointsBy K) := by
  refine D.F.ok sc__law_points_by (fun vs H Q E h => ?_) (fun cdv A outer s H vs Q E hr h => ?_)
  · obtain ⟨a, ns, st, cnt, way, rfl, _⟩ := h
    rfl
  · obtain ⟨a, ns, st, cnt, way, rfl, hS, hst, hc0, hc1, q⟩ := h
    have nd := sc__law_points_by.nd
    have l2 : 2 ≤ sizeLine := by decide
    refine ⟨_, pss_cons (pset 4 nd (pe_lst pa_nil))
      (pss_cons (ps_for PassesOwn.never rfl (pi_range1 (by rfl) B.range (pa_cons (pv 2) pa_nil)) (pgn 5 nd)
        (pss_cons (pset 6 nd (pcall F hr (pa_cons (pcall C hr (pa_cons (pv 0) (pa_cons (pe_op op_add (pv 1) (pe_op op_mul pe_int (pv 5))) pa_nil)))
            (pa_cons (pcall C hr (pa_cons (pv 0) (pa_cons (pe_op op_add (pe_op op_add (pv 1) (pe_op op_mul pe_int (pv 5))) pe_int) pa_nil))) (pa_cons (pv 3) pa_nil)))))
        (pss_one (ps_if (pt_cmpR (op_notInD (hu65 hr)) (pv 6) (pv 4) (by rfl)) (pss_one (ps_expr (pe_bm PySem.F.plainAttrs_list PySem.F.slot_list_append PySem.F.type_list_append mt_append (pv 4) (pa_cons (pv 6) pa_nil)))) pss_nil))))
      (pss_cons (ps_for PassesOwn.never rfl (pi_list (pe_lst (pa_cons (pe_tup (pa_cons pe_int (pa_cons pe_int pa_nil))) (pa_cons (pe_tup (pa_cons pe_int (pa_cons pe_int pa_nil))) pa_nil)))) (pgn 7 nd)
        (pss_one (ps_if (PW.pt (pw_and (pt_cmpR op_lt (pe_callB call_len_seq (by rfl) B.len PySem.boot_len (pa_cons (pv 4) pa_nil)) pe_int (nomark _)) (pw_and1 (pt_cmpR (op_notInD (hu65 hr)) (pv 7) (pv 4) (by rfl)))))
          (pss_one (ps_expr (pe_bm PySem.F.plainAttrs_list PySem.F.slot_list_append PySem.F.type_list_append mt_append (pv 4) (pa_cons (pv 7) pa_nil)))) pss_nil)))
      (pss_one (ps_ret (pv 4))))), ?_⟩
    refine ⟨by decide, fun p np => ?_⟩
    refine ⟨_, rfl, cnt, rfl, by omega, by omega, for_range (lo := 0) (n := cnt.toNat) (fun i σ H' => ∃ ks u v, σ = [some (.ref a), some (.int st), some (.int cnt), some (.int way), some (.ref p), u, v, none] ∧
      Same H H' ∧ PtsL H' p ks ∧ (∀ k ∈ ks, H k.1 = none) ∧ (ptsOf ks).Nodup ∧ (∀ q ∈ ptsOf ks, Ok q) ∧ ks.length ≤ i) ⟨[], none, none, rfl, same_new np, ⟨upd_same, (fun k hk => by cases hk)⟩, (fun k hk => by cases hk), List.nodup_nil, (fun k hk => by cases hk), Nat.le_refl _⟩ ?_ ?_⟩
    · rintro i σ H' hi ⟨ks, u, v, rfl, S, L, fr, hn, ho, hl⟩
      refine ⟨_, rfl, _, rfl, _, rfl, _, _, rfl, rfl, .inl ⟨by decide, by decide⟩, _, _, rfl, rfl, a, ns, _, rfl, S.seq hS, by omega, fun n1 => ?_⟩
      refine ⟨_, rfl, _, rfl, _, rfl, _, _, rfl, rfl, .inl ⟨by decide, by decide⟩, _, _, rfl, rfl, _, _, rfl, rfl, a, ns, _, rfl, S.seq hS, by omega, fun n2 => ?_⟩
      refine ⟨_, rfl, _, _, _, rfl, fun H2 t r S2 nt ht hr' => ?_⟩
      have L2 := L.same S2
      have S3 := S.trans S2
      refine ⟨_, rfl, _, rfl, ptD r, _, pt_dp ⟨t, rfl, SqT.of ht⟩, L2.dp, ptD_shaped r, ptDs_shaped _, _, rfl, ?_⟩
      rw [pt_any]
      refine ite2 (fun hc => ?_) (fun hc => ?_)
      · have hni : r ∉ ptsOf ks := fun z => by
          rw [decide_eq_true z] at hc
          cases hc
        refine ⟨_, rfl, .inl ⟨rfl, _, SqL.of L2.lst⟩, _, rfl, p, _, _, rfl, rfl, L2.lst, ?_, ?_⟩
        · rw [List.length_map]
          exact small1000 (by omega)
        · refine ⟨ks ++ [(t, r)], _, _, rfl, same_upd S3 np, L2.more ht, fun k hk => ?_, ?_, fun q hq => ?_, ?_⟩
          · rcases List.mem_append.mp hk with hk | hk
            · exact fr k hk
            · have e : k = (t, r) := by simpa using hk
              rw [e]
              exact S.free nt
          · show (List.map (·.2) (ks ++ [(t, r)])).Nodup
            rw [List.map_append]
            refine List.nodup_append.mpr ⟨hn, by simp, fun x hx y hy e => ?_⟩
            have ey : y = r := by simpa using hy
            exact hni (by rw [← ey, ← e]; exact hx)
          · have : q ∈ List.map (·.2) (ks ++ [(t, r)]) := hq
            rw [List.map_append] at this
            rcases List.mem_append.mp this with z | z
            · exact ho q z
            · have ey : q = r := by simpa using z
              rw [ey]
              exact hr'
          · rw [List.length_append]
            show ks.length + 1 ≤ i + 1
            omega
      · exact ⟨ks, _, _, rfl, S3, L2, fr, hn, ho, by omega⟩
    · rintro σ H' ⟨ks, u, v, rfl, S, L, fr, hn, ho, hl⟩
      refine ⟨l2, fun t1 n1 => ?_⟩
      refine ⟨l2, fun t2 n2 => ?_⟩
      refine ⟨(by show 2 ≤ sizeLine; decide), fun ml nm => ?_⟩
      have S1 : Same H' (upd H' t1 (.tup [V.int 7, V.int 11])) := same_new n1
      have S2 := S1.trans (same_new (o := .tup [V.int 8, V.int 11]) n2)
      have S3 := S2.trans (same_new (o := .lst [V.ref t1, V.ref t2]) nm)
      have e1 : upd (upd (upd H' t1 (.tup [V.int 7, V.int 11])) t2 (.tup [V.int 8, V.int 11])) ml (.lst [V.ref t1, V.ref t2]) t1 = some (.tup [V.int 7, V.int 11]) := same_new nm _ _ (same_new n2 _ _ upd_same)
      have e2 : upd (upd (upd H' t1 (.tup [V.int 7, V.int 11])) t2 (.tup [V.int 8, V.int 11])) ml (.lst [V.ref t1, V.ref t2]) t2 = some (.tup [V.int 8, V.int 11]) := same_new nm _ _ upd_same
      have em : upd (upd (upd H' t1 (.tup [V.int 7, V.int 11])) t2 (.tup [V.int 8, V.int 11])) ml (.lst [V.ref t1, V.ref t2]) ml = some (.lst [V.ref t1, V.ref t2]) := upd_same
      refine ⟨ml, rfl, ⟨_, SqL.of upd_same⟩, ?_⟩
      generalize hH3 : upd (upd (upd H' t1 (.tup [V.int 7, V.int 11])) t2 (.tup [V.int 8, V.int 11])) ml (.lst [V.ref t1, V.ref t2]) = H3 at S3 e1 e2 em
      show ∃ W : Nat → Nat → L2.St → Hp → Prop, _
      have f1 : H t1 = none := S.free n1
      have f2 : H t2 = none := S.free (S1.free n2)
      have fm : H' ml = none := S2.free nm
      have pm : p ≠ ml := fun z => by rw [← z, L.lst] at fm; cases fm
      refine for_list (K := K) (a := ml) (xs := [V.ref t1, V.ref t2]) (fun i σ H4 => ∃ ks u v z, σ = [some (.ref a), some (.int st), some (.int cnt), some (.int way), some (.ref p), u, v, z] ∧
        Same H H4 ∧ PtsL H4 p ks ∧ (∀ k ∈ ks, H k.1 = none) ∧ (ptsOf ks).Nodup ∧ (∀ q ∈ ptsOf ks, Ok q) ∧ ((ks.length : Int) ≤ cnt ∨ ks.length ≤ 2) ∧
        H4 ml = some (.lst [V.ref t1, V.ref t2]) ∧ H4 t1 = some (.tup [V.int 7, V.int 11]) ∧ H4 t2 = some (.tup [V.int 8, V.int 11]) ∧ (i = 1 → 2 ≤ ks.length ∨ ptsOf ks = [(7, 11)]) ∧ (i = 2 → 2 ≤ ks.length)) ?_ ?_ ?_ ?_
      · exact ⟨ks, u, v, none, rfl, S.trans S3, L.same S3, fr, hn, ho, .inl (by omega), em, e1, e2, fun z => by omega, fun z => by omega⟩
      · rintro i σ H4 _ ⟨_, _, _, _, _, _, _, _, _, _, _, z, _⟩
        exact SqL.of z
      · rintro i y σ H4 hi ⟨ks, u, v, z, rfl, S, L, fr, hn, ho, hl, hm, h1, h2, hi1, hi2⟩
        obtain ⟨t, r, rfl, ht, hrk, hcase, frt⟩ : ∃ t r, y = V.ref t ∧ H4 t = some (.tup [V.int r.1, V.int r.2]) ∧ Ok r ∧ ((i = 0 ∧ r = (7, 11)) ∨ (i = 1 ∧ r = (8, 11))) ∧ H t = none := by
          match i, hi with
          | 0, hi =>
            cases hi
            exact ⟨t1, (7, 11), rfl, h1, by unfold Ok; decide, .inl ⟨rfl, rfl⟩, f1⟩
          | 1, hi =>
            cases hi
            exact ⟨t2, (8, 11), rfl, h2, by unfold Ok; decide, .inr ⟨rfl, rfl⟩, f2⟩
          | _ + 2, hi => cases hi
        have stay : 2 ≤ ks.length ∨ r ∈ ptsOf ks → (i + 1 = 1 → 2 ≤ ks.length ∨ ptsOf ks = [(7, 11)]) ∧ (i + 1 = 2 → 2 ≤ ks.length) := fun hor => by
          refine ⟨fun e => ?_, fun e => ?_⟩
          · have i0 : i = 0 := by omega
            rcases hcase with ⟨_, er⟩ | ⟨e2, _⟩
            · rcases hor with hor | hor
              · exact .inl hor
              · by_cases h2' : 2 ≤ ks.length
                · exact .inl h2'
                · refine .inr ?_
                  have hlen : (ptsOf ks).length = ks.length := List.length_map _
                  match hq : ptsOf ks, hor with
                  | [x], hor =>
                    have ex : r = x := by simpa using hor
                    rw [← ex, er]
                  | x :: x' :: l, _ =>
                    rw [hq] at hlen
                    simp only [List.length_cons] at hlen
                    omega
            · omega
          · have i1 : i = 1 := by omega
            rcases hcase with ⟨e2, _⟩ | ⟨_, er⟩
            · omega
            · rcases hor with hor | hor
              · exact hor
              · rcases hi1 i1 with h | h
                · exact h
                · rw [h, er] at hor
                  exact absurd hor (by decide)
        refine ⟨_, rfl, p, _, rfl, .inl (SqL.of L.lst), _, _, rfl, rfl, _, rfl, ite2 (fun hc => ?_) (fun hc => ?_)⟩
        · have hlt : ks.length < 2 := by
            have := of_decide_eq_true hc
            rw [List.length_map] at this
            omega
          refine ⟨_, rfl, _, rfl, ptD r, _, pt_dp ⟨t, rfl, SqT.of ht⟩, L.dp, ptD_shaped r, ptDs_shaped _, _, rfl, ?_⟩
          rw [pt_any]
          refine ite2 (fun hc => ?_) (fun hc => ?_)
          · have hni : r ∉ ptsOf ks := fun z => by
              rw [decide_eq_true z] at hc
              cases hc
            have mp : ml ≠ p := Ne.symm pm
            have np1 : t1 ≠ p := ne_of h1 L.lst (by intro z; cases z)
            have np2 : t2 ≠ p := ne_of h2 L.lst (by intro z; cases z)
            refine ⟨_, rfl, .inl ⟨rfl, _, SqL.of L.lst⟩, _, rfl, p, _, _, rfl, rfl, L.lst, ?_, ?_⟩
            · rw [List.length_map]
              exact small1000 (by omega)
            · refine ⟨ks ++ [(t, r)], _, _, _, rfl, same_upd S np, L.more ht, fun k hk => ?_, ?_, fun q hq => ?_, ?_, by rw [upd_ne mp]; exact hm, by rw [upd_ne np1]; exact h1, by rw [upd_ne np2]; exact h2, fun e => ?_, fun e => ?_⟩
              · rcases List.mem_append.mp hk with hk | hk
                · exact fr k hk
                · have e : k = (t, r) := by simpa using hk
                  rw [e]
                  exact frt
              · show (List.map (·.2) (ks ++ [(t, r)])).Nodup
                rw [List.map_append]
                refine List.nodup_append.mpr ⟨hn, by simp, fun x hx y hy e => ?_⟩
                have ey : y = r := by simpa using hy
                exact hni (by rw [← ey, ← e]; exact hx)
              · have : q ∈ List.map (·.2) (ks ++ [(t, r)]) := hq
                rw [List.map_append] at this
                rcases List.mem_append.mp this with z | z
                · exact ho q z
                · have ey : q = r := by simpa using z
                  rw [ey]
                  exact hrk
              · right
                rw [List.length_append]
                show ks.length + 1 ≤ 2
                omega
              · rcases hcase with ⟨_, er⟩ | ⟨e2, _⟩
                · by_cases h0 : ks.length = 0
                  · right
                    have : ks = [] := List.length_eq_zero_iff.mp h0
                    rw [this, er]
                    rfl
                  · left
                    rw [List.length_append]
                    show 2 ≤ ks.length + 1
                    omega
                · omega
              · rcases hcase with ⟨e2, _⟩ | ⟨e2, er⟩
                · omega
                · rw [List.length_append]
                  show 2 ≤ ks.length + 1
                  rcases hi1 e2 with h | h
                  · omega
                  · have : (ptsOf ks).length = ks.length := List.length_map _
                    rw [h] at this
                    simp only [List.length_cons, List.length_nil] at this
                    omega
          · have hin : r ∈ ptsOf ks := by
              by_cases z : r ∈ ptsOf ks
              · exact z
              · rw [decide_eq_false z] at hc
                exact absurd rfl hc
            obtain ⟨s1, s2⟩ := stay (.inr hin)
            exact ⟨ks, _, _, _, rfl, S, L, fr, hn, ho, hl, hm, h1, h2, s1, s2⟩
        · have hge : 2 ≤ ks.length := by
            by_cases z : ks.length < 2
            · refine absurd (decide_eq_true ?_) hc
              rw [List.length_map]
              omega
            · omega
          obtain ⟨s1, s2⟩ := stay (.inl hge)
          exact ⟨ks, _, _, _, rfl, S, L, fr, hn, ho, hl, hm, h1, h2, s1, s2⟩
      · rintro σ H4 ⟨ks, u, v, z, rfl, S, L, fr, hn, ho, hl, hm, h1, h2, hi1, hi2⟩
        refine ⟨_, rfl, ?_⟩
        exact q H4 p ks S np L fr ⟨hn, ho, by rw [show (ptsOf ks).length = ks.length from List.length_map _]; exact hi2 rfl⟩ hl
/-! _law_set -/
def spSet (K : PySem.W.Frag) : Sp := fun vs H Q _ => ∃ (a : Addr) (ns : List Int), vs = [.ref a] ∧ SqL K H a (ns.map V.int) ∧
  ∀ H' p ks, Same H H' → H p = none → PtsL H' p ks → (∀ k ∈ ks, H k.1 = none) → PsOk (ptsOf ks) → ks.length ≤ 20 → Q (.ref p) H'
theorem sc__law_set : FnScope ["script", "head"] ["script"] (defScope s__law_set) := ⟨rfl, rfl, rfl, by decide +kernel, rfl, by decide +kernel, by decide +kernel⟩
theorem ok__law_set (D : Df K mg "_law_set" s__law_set ["script"]) (CC : Fn P w K mg base CX0 1 "_law_cell_at" ["script", "k"] (spCell K)) (CP : Fn P w K mg base CX0 2 "_law_points_by" ["script", "start", "count", "way"] (spPointsBy K)) :
    FnOk P w K mg base CX0 3 D.f D.fd ["script"] (spSet K) := by
  refine D.F.ok sc__law_set (fun vs H Q E h => ?_) (fun cdv A outer s H vs Q E hr h => ?_)
  · obtain ⟨a, ns, rfl, _⟩ := h
    rfl
  · obtain ⟨a, ns, rfl, hS, q⟩ := h
    have nd := sc__law_set.nd
    refine ⟨_, pss_cons (pset 1 nd (pcall CC hr (pa_cons (pv 0) (pa_cons pe_int pa_nil))))
      (pss_one (ps_ret (pcall CP hr (pa_cons (pv 0) (pa_cons pe_int (pa_cons (pe_op op_add pe_int (pe_op op_mod (pv 1) pe_int)) (pa_cons (pe_op op_mod (pe_op op_fdiv (pv 1) pe_int) pe_int) pa_nil))))))), ?_⟩
    refine ⟨_, rfl, a, ns, 0, rfl, hS, by omega, fun n => ?_⟩
    refine ⟨_, rfl, _, rfl, _, _, rfl, rfl, (by show (0 : Int) < _; decide), _, _, rfl, rfl, _, rfl, _, _, rfl, rfl, ⟨by decide, by decide⟩, _, _, rfl, rfl, (by show (0 : Int) < _; decide), ?_⟩
    have h1 : 0 ≤ 2 + n % 19 ∧ 2 + n % 19 ≤ 20 := by omega
    exact ⟨a, ns, 2, 2 + n % 19, _, rfl, hS, by omega, h1.1, by omega, fun H' p ks S np L fr ok hl => q H' p ks S np L fr ok (by omega)⟩
/-! shown, the law's own text -/
theorem cut1 (w : Str) : TL.tl (cutS w none (some 1)) = (TL.tl w).take 1 := by
  unfold cutS
  rw [TL.tl_mk, HT.sIx_none]
  have h := HT.sIx_nat w.length w.length 1
  have h2 : HT.sIx w.length w.length (some 1) = min 1 w.length := h
  rw [h2, List.drop_zero, Nat.sub_zero]
  have hl := TL.len_tl w
  by_cases h1 : 1 ≤ w.length
  · rw [Nat.min_eq_left h1]
  · have e : TL.tl w = [] := List.length_eq_zero_iff.mp (by omega)
    show List.take _ (TL.tl w) = _
    rw [e, List.take_nil, List.take_nil]
theorem cutR (w : Str) : TL.tl (cutS w (some 1) none) = (TL.tl w).drop 1 := by
  unfold cutS
  rw [TL.tl_mk, HT.sIx_none]
  have h := HT.sIx_nat w.length 0 1
  have h2 : HT.sIx w.length 0 (some 1) = min 1 w.length := h
  rw [h2]
  have hl := TL.len_tl w
  show List.take _ (List.drop _ (TL.tl w)) = _
  by_cases h1 : 1 ≤ w.length
  · rw [Nat.min_eq_left h1]
    exact List.take_of_length_le (by rw [List.length_drop]; omega)
  · have e : TL.tl w = [] := List.length_eq_zero_iff.mp (by omega)
    rw [e, List.drop_nil, List.take_nil, List.drop_nil]
theorem log20 {n : Int} (h : Bd 20 n) : n.natAbs.log2 < 1920 := Nat.lt_of_lt_of_le (PySem.Flt.log2_lt_of (by decide) h) (by decide)
def spText (K : PySem.W.Frag) : Sp := fun vs H Q _ => ∃ (a : Addr) (ks : List (Addr × P2)), vs = [.ref a] ∧ PtsL H a ks ∧ PsOk (ptsOf ks) ∧ ks.length ≤ 20 ∧ ∀ H', Same H H' → Q (.str (psText (ptsOf ks))) H'
theorem strs_map (ks : List (Addr × P2)) : (ks.map fun k => V.str (ptText k.2)) = ((ptsOf ks).map ptText).map V.str := by
  unfold ptsOf
  rw [List.map_map, List.map_map]
  rfl
theorem text_sum {ps : List P2} (h : ∀ p ∈ ps, Ok p) (h20 : ps.length ≤ 20) : ((ps.map ptText).map (·.length)).sum + (ps.map ptText).length * Str.length " " ≤ 16777216 := by
  have h2 := sum_le (l := ps.map ptText) (b := 17) fun x hx => by
    obtain ⟨p, hp, rfl⟩ := List.mem_map.mp hx
    exact ptText_len (h p hp)
  rw [blank_len]
  rw [List.length_map] at h2 ⊢
  omega
/-! _law_text -/
theorem sc__law_text : FnScope ["points", "x", "y"] ["points"] (defScope s__law_text) := ⟨rfl, rfl, rfl, by decide +kernel, rfl, by decide +kernel, by decide +kernel⟩
theorem ok__law_text (D : Df K mg "_law_text" s__law_text ["points"]) (B : Bl mg) : FnOk P w K mg base CX0 1 D.f D.fd ["points"] (spText K) := by
  refine D.F.ok sc__law_text (fun vs H Q E h => ?_) (fun cdv A outer s H vs Q E hr h => ?_)
  · obtain ⟨a, ks, rfl, _⟩ := h
    rfl
  · obtain ⟨a, ks, rfl, L, pok, h20, q⟩ := h
    have nd := sc__law_text.nd
    have hpl : (ptsOf ks).length = ks.length := List.length_map _
    have hsz : sizeLine = 16777216 := sizeLine_eq
    refine ⟨_, pss_one (ps_ret (pe_join pe_str (pe_lc (own := [("x", 1), ("y", 2)]) (g := gTup K 2 (gCons (gName 1) (gCons (gName 2) gNil))) (tt := tYes) rfl nd (pi_list (pv 0)) (blkOk_by (own := [("x", 1), ("y", 2)]) (N := ["points", "x", "y"]) (sc := defScope s__law_text) (by decide +kernel)) (fun _ _ _ _ _ => pg_tup rfl (pgs_cons (pg_name (i := 1) nd rfl (Or.inl rfl)) (pgs_cons (pg_name (i := 2) nd rfl (Or.inl rfl)) pgs_nil))) (fun _ _ _ _ _ => pts_nil) (fun _ _ _ _ _ => (pe_op op_add_str (pe_op op_add_str (pe_callTy call_str_int (by rfl) B.str boot_str (pa_cons (pv 1) pa_nil)) pe_str) (pe_callTy call_str_int (by rfl) B.str boot_str (pa_cons (pv 2) pa_nil))))))), ?_⟩
    refine ⟨⟨_, rfl⟩, ?_⟩
    refine ⟨_, rfl, a, rfl, ⟨_, SqL.of L.lst⟩, fun M nM => ?_⟩
    refine lc_list (K := K) (a := a) (xs := ks.map fun k => V.ref k.1) (fun i H' => Same H H' ∧ H' M = some (.lst ((ks.take i).map fun k => V.str (ptText k.2)))) ⟨same_new nM, upd_same⟩ (fun i H' _ ⟨S, _⟩ => SqL.of (S _ _ L.lst)) ?_ ?_
    · rintro i v H' hi ⟨S, hM⟩
      obtain ⟨k, hk, rfl⟩ := at_item hi
      have mk := List.mem_of_getElem? hk
      have hil := (List.getElem?_eq_some_iff.mp hk).1
      have ok := pok.ok k.2 (List.mem_map.mpr ⟨k, mk, rfl⟩)
      have ob := ok.b
      have a1 := tS_len (n := k.2.1) ⟨ok.1, ok.2.1⟩
      have a2 := tS_len (n := k.2.2) ⟨ok.2.2.1, ok.2.2.2⟩
      have a3 := ptText_len ok
      have al : (tS k.2.1 ++ ("," : Str)).length = (tS k.2.1).length + 1 := by
        rw [TL.len_tl, TL.tl_append, List.length_append, comma_tl, ← TL.len_tl]
        rfl
      refine ⟨k.1, _, rfl, SqT.of (S _ _ (L.tup k mk)), rfl, _, _, rfl, _, _, rfl, rfl, ?_⟩
      refine ⟨rfl, tyes (ifT rfl ?_)⟩
      refine ⟨_, rfl, _, rfl, log20 ob.1, ?_⟩
      refine ⟨_, _, rfl, rfl, ?_, ?_⟩
      · show (tS k.2.1).length + Str.length "," ≤ sizeLine
        rw [comma_len]
        omega
      refine ⟨_, rfl, _, rfl, log20 ob.2, ?_⟩
      refine ⟨_, _, rfl, rfl, ?_, ?_⟩
      · show (tS k.2.1 ++ ("," : Str)).length + (tS k.2.2).length ≤ sizeLine
        omega
      refine ⟨_, hM, ?_, same_upd S nM, ?_⟩
      · rw [List.length_map, List.length_take]
        exact small1000 (by omega)
      · rw [upd_same, List.take_add_one, hk, List.map_append]
        rfl
    · rintro H' ⟨S, hM⟩
      have eM : ks.take (ks.map fun k => V.ref k.1).length = ks := List.take_of_length_le (by rw [List.length_map]; exact Nat.le_refl _)
      rw [eM, strs_map] at hM
      exact ⟨_, M, _, rfl, rfl, .inl (SqL.of hM), text_sum pok.ok (by omega), q _ S⟩
/-! number_of, of a good word -/
structure Gt (mg : Str → Option Value) : Prop where
  fig : ∃ t, mg "FIGURES" = some (.str "0123456789" t)
  long : ∃ t, mg "LONGEST" = some (.int 7 t)
theorem fig_tl : TL.tl "0123456789" = [48, 49, 50, 51, 52, 53, 54, 55, 56, 57] := TL.tl_ofString "0123456789"
theorem fig_mem {c : Nat} : c ∈ (Str.cps "0123456789").toList ↔ 48 ≤ c ∧ c ≤ 57 := by
  show c ∈ TL.tl "0123456789" ↔ _
  rw [fig_tl]
  simp
  omega
theorem minus_tl : TL.tl "-" = [45] := TL.tl_ofString "-"
theorem zero_tl : TL.tl "0" = [48] := TL.tl_ofString "0"
theorem str_dec (a b : Str) : decide (V.str a = V.str b) = decide (TL.tl a = TL.tl b) := by
  by_cases h : TL.tl a = TL.tl b
  · have e := TL.ext_tl h
    rw [e, decide_eq_true rfl, decide_eq_true rfl]
  · rw [decide_eq_false h, decide_eq_false (fun z => h (by rw [V.str.inj z]))]
def spNum : Sp := fun vs H Q _ => ∃ w : Str, vs = [.str w] ∧ GoodL (TL.tl w) ∧ Q (.int (valL (TL.tl w))) H
theorem sc_number_of : FnScope ["word", "figures", "sign"] ["word"] (defScope s_number_of) := ⟨rfl, rfl, rfl, by decide +kernel, rfl, by decide +kernel, by decide +kernel⟩
theorem ok_number_of (D : Df K mg "number_of" s_number_of ["word"]) (B : Bl mg) (G : Gt mg) : FnOk P w K mg base CX0 1 D.f D.fd ["word"] spNum := by
  refine D.F.ok sc_number_of (fun vs H Q E h => ?_) (fun cdv A outer s H vs Q E hr h => ?_)
  · obtain ⟨w, rfl, _⟩ := h
    rfl
  · obtain ⟨w, rfl, g, q⟩ := h
    have nd := sc_number_of.nd
    obtain ⟨tf, hfig⟩ := G.fig
    obtain ⟨tl, hlong⟩ := G.long
    obtain ⟨gi, gl⟩ := good_int g
    have hsz : sizeLine = 16777216 := sizeLine_eq
    refine ⟨_, pss_cons (pset 1 nd (pv 0))
      (pss_cons (ps_if (pt_cmpR op_eq (pe_slice sl_str (pv 0) po_none (po_some pe_int)) pe_str (nomark _)) (pss_one (pset 1 nd (pe_slice sl_str (pv 0) (po_some pe_int) po_none))) pss_nil)
      (pjoin (u := fun D' σ H' => ∃ f : Str, σ = [some (.str w), some (.str f), none] ∧ H' = H ∧ TL.tl f = figL (TL.tl w) ∧ D'.rt (.int (valL (TL.tl w))) H)
      (pss_cons (ps_if (PW.pt (pw_or (pt_cmpR op_lt (pe_callB call_len_str (by rfl) B.len PySem.boot_len (pa_cons (pv 1) pa_nil)) pe_int (nomark _)) (pw_or (pt_cmpR op_gt (pe_callB call_len_str (by rfl) B.len PySem.boot_len (pa_cons (pv 1) pa_nil)) (pe_glob (v := .int 7) rfl hlong ⟨_, rfl⟩) (nomark _)) (pw_or1 (PW.pt (pw_and (pt_cmpR op_eq (pe_ix ix_str (pv 1) pe_int (fun _ _ => rfl)) pe_str (nomark _)) (pw_and1 (pt_cmpR op_ne (pv 0) pe_str (nomark _))))))))) (pss_one ps_never) pss_nil)
      (pss_cons (ps_for PassesOwn.never rfl (pi_str (pv 1)) (pgn 2 nd) (pss_one (ps_if (pt_cmpR op_notIn_sign (pv 2) (pe_glob (v := .str "0123456789") rfl hfig ⟨_, rfl⟩) (by rfl)) (pss_one ps_never) pss_nil)))
      (pss_one (ps_ret (pe_callTy call_int_str (by rfl) B.int boot_int (pa_cons (pv 0) pa_nil)))))) ?_)), ?_⟩
    · rintro D' σ H' ⟨f, rfl, rfl, ef, q'⟩
      have fl := TL.len_tl f
      rw [ef] at fl
      have g1 := g.one
      have g7 := g.most
      refine ⟨_, rfl, _, rfl, by omega, _, _, rfl, rfl, _, rfl, ifF (decide_eq_false (by omega)) ?_⟩
      refine ⟨_, rfl, _, rfl, by omega, _, _, rfl, rfl, _, rfl, ifF (decide_eq_false (by omega)) ?_⟩
      obtain ⟨c, r, ec⟩ : ∃ c r, TL.tl f = c :: r := by
        cases e : TL.tl f with
        | nil =>
          rw [← ef, e] at g1
          exact absurd g1 (by decide)
        | cons c r => exact ⟨c, r, rfl⟩
      have h0 : atI (TL.tl f) 0 = some c := atI_nat (j := 0) (by rw [ec]; rfl)
      refine ⟨_, rfl, f, 0, c, rfl, rfl, by omega, h0, rfl, _, rfl, ?_⟩
      by_cases hc : c = 48
      · have ew : TL.tl w = [48] := g.nought (by rw [← ef, ec, hc]; rfl)
        refine ifT (by rw [str_dec, zero_tl]; exact decide_eq_true (by rw [hc])) ?_
        refine ⟨_, rfl, rfl, _, rfl, ifF (by rw [str_dec, ew, zero_tl]; rfl) ?_⟩
        refine ⟨_, rfl, f, rfl, for_it walk_str (fun i σ H2 => H2 = H' ∧ ∃ r, σ = [some (.str w), some (.str f), r]) ⟨rfl, none, rfl⟩ (fun _ _ _ _ _ => trivial) ?_ ?_⟩
        · rintro i x σ H1 H2 hi ⟨rfl, r, rfl⟩ ⟨rfl, d, hd, rfl⟩
          have md : d ∈ TL.tl f := Array.mem_toList_iff.mpr (Array.mem_of_getElem? hd)
          rw [ef] at md
          refine ⟨_, rfl, d, _, rfl, rfl, _, rfl, ifF ?_ ?_⟩
          · rw [decide_eq_true (fig_mem.mpr (g.dig d md))]
            rfl
          · exact ⟨rfl, _, rfl⟩
        · rintro σ H1 ⟨rfl, r, rfl⟩
          exact ⟨_, rfl, w, _, rfl, gi, by omega, q'⟩
      · refine ifF (by rw [str_dec, zero_tl]; exact decide_eq_false (fun z => hc (by have z2 : [c] = [48] := z; simpa using z2))) ?_
        refine ⟨_, rfl, f, rfl, for_it walk_str (fun i σ H2 => H2 = H' ∧ ∃ r, σ = [some (.str w), some (.str f), r]) ⟨rfl, none, rfl⟩ (fun _ _ _ _ _ => trivial) ?_ ?_⟩
        · rintro i x σ H1 H2 hi ⟨rfl, r, rfl⟩ ⟨rfl, d, hd, rfl⟩
          have md : d ∈ TL.tl f := Array.mem_toList_iff.mpr (Array.mem_of_getElem? hd)
          rw [ef] at md
          refine ⟨_, rfl, d, _, rfl, rfl, _, rfl, ifF ?_ ?_⟩
          · rw [decide_eq_true (fig_mem.mpr (g.dig d md))]
            rfl
          · exact ⟨rfl, _, rfl⟩
        · rintro σ H1 ⟨rfl, r, rfl⟩
          exact ⟨_, rfl, w, _, rfl, gi, by omega, q'⟩
    · refine ⟨_, rfl, ?_⟩
      refine ⟨_, rfl, _, rfl, w, rfl, by omega, rfl, _, rfl, ?_⟩
      rw [str_dec, cut1, minus_tl]
      by_cases hm : (TL.tl w).take 1 = [45]
      · refine ifT (decide_eq_true hm) ?_
        refine ⟨_, rfl, _, rfl, w, rfl, by omega, ?_⟩
        exact ⟨_, rfl, rfl, by rw [cutR]; exact (if_pos hm).symm, q⟩
      · exact ifF (decide_eq_false hm) ⟨_, rfl, rfl, (if_neg hm).symm, q⟩
/-! point_of, of a good word -/
def spPt : Sp := fun vs H Q _ => ∃ w a b : Str, vs = [.str w] ∧ Txt.split w "," = [a, b] ∧ w.length ≤ 1000 ∧ GoodL (TL.tl a) ∧ GoodL (TL.tl b) ∧
  ∀ H' t, Same H H' → H t = none → H' t = some (.tup [.int (valL (TL.tl a)), .int (valL (TL.tl b))]) → Q (.ref t) H'
theorem sc_point_of : FnScope ["word", "parts"] ["word"] (defScope s_point_of) := ⟨rfl, rfl, rfl, by decide +kernel, rfl, by decide +kernel, by decide +kernel⟩
theorem ok_point_of (D : Df K mg "point_of" s_point_of ["word"]) (B : Bl mg) (C_number_of : Fn P w K mg base CX0 1 "number_of" ["word"] spNum) : FnOk P w K mg base CX0 2 D.f D.fd ["word"] spPt := by
  refine D.F.ok sc_point_of (fun vs H Q E h => ?_) (fun cdv A outer s H vs Q E hr h => ?_)
  · obtain ⟨w, a, b, rfl, _⟩ := h
    rfl
  · obtain ⟨w, a, b, rfl, es, hl, ga, gb, q⟩ := h
    have nd := sc_point_of.nd
    have hsz : sizeLine = 16777216 := sizeLine_eq
    refine ⟨_, pss_cons (pset 1 nd (pe_split (pv 0) pe_str))
      (pss_cons (ps_if (pt_cmpR op_ne (pe_callB call_len_seq (by rfl) B.len PySem.boot_len (pa_cons (pv 1) pa_nil)) pe_int (nomark _)) (pss_one ps_never) pss_nil)
      (pss_one (ps_ret (pe_tup (pa_cons (pcall C_number_of hr (pa_cons (pe_ix ix_list (pv 1) pe_int (fun _ _ => rfl)) pa_nil)) (pa_cons (pcall C_number_of hr (pa_cons (pe_ix ix_list (pv 1) pe_int (fun _ _ => rfl)) pa_nil)) pa_nil)))))), ?_⟩
    refine ⟨_, rfl, ⟨_, rfl⟩, w, _, rfl, rfl, by rw [comma_len]; rfl, by omega, fun p np => ?_⟩
    rw [es]
    have S := same_new (o := .lst ([a, b].map V.str)) np
    refine ⟨_, rfl, p, _, rfl, .inl (SqL.of upd_same), rfl, _, rfl, ifF (by rfl) ?_⟩
    refine ⟨_, rfl, _, _, _, _, rfl, rfl, SqL.of upd_same, at0, ?_⟩
    refine ⟨a, rfl, ga, ?_⟩
    refine ⟨_, rfl, _, _, _, _, rfl, rfl, SqL.of upd_same, at1, ?_⟩
    refine ⟨b, rfl, gb, ?_⟩
    refine ⟨(by show 2 ≤ sizeLine; decide), fun t nt => ?_⟩
    have S2 := same_new (o := .tup [V.int (valL (TL.tl a)), V.int (valL (TL.tl b))]) nt
    exact q _ t (S.trans S2) (S.free nt) upd_same
/-! read, of a text of points -/
def spRead (K : PySem.W.Frag) : Sp := fun vs H Q _ => ∃ ps : List P2, vs = [.str (psText ps)] ∧ PsOk ps ∧ ps.length ≤ 20 ∧ ∀ H' p ks, Same H H' → H p = none → PtsL H' p ks → ptsOf ks = ps → Q (.ref p) H'
theorem sc_read : FnScope ["text", "points", "word"] ["text"] (defScope s_read) := ⟨rfl, rfl, rfl, by decide +kernel, rfl, by decide +kernel, by decide +kernel⟩
theorem ok_read (D : Df K mg "read" s_read ["text"]) (B : Bl mg) (C_see_points : Fn P w K mg base CX0 1 "see_points" ["points"] (spSee K)) (C_point_of : Fn P w K mg base CX0 2 "point_of" ["word"] spPt) : FnOk P w K mg base CX0 3 D.f D.fd ["text"] (spRead K) := by
  refine D.F.ok sc_read (fun vs H Q E h => ?_) (fun cdv A outer s H vs Q E hr h => ?_)
  · obtain ⟨ps, rfl, _⟩ := h
    rfl
  · obtain ⟨ps, rfl, pok, h20, q⟩ := h
    have nd := sc_read.nd
    have hsz : sizeLine = 16777216 := sizeLine_eq
    have p2 := pok.two
    have tl := psText_len pok.ok h20
    refine ⟨_, pss_cons (ps_setLc (i := 1) (own := [("word", 2)]) (g := gName 2) (tt := tYes) rfl nd rfl rfl (sw_true rfl rfl rfl (by decide +kernel)) (pi_list (pe_split (pv 0) pe_str)) (blkOk_by (own := [("word", 2)]) (N := ["text", "points", "word"]) (sc := defScope s_read) (by decide +kernel)) (fun _ _ _ _ _ => pg_name (i := 2) nd rfl (Or.inl rfl)) (fun _ _ _ _ _ => pts_nil) (fun _ _ _ _ _ => (pcall C_point_of hr (pa_cons (pv 2) pa_nil))))
      (pss_cons (ps_try_thru0 (pss_one (ps_expr (pcall C_see_points hr (pa_cons (pv 1) pa_nil)))))
      (pss_one (ps_ret (pv 1)))), ?_⟩
    refine ⟨_, rfl, ⟨_, rfl⟩, _, _, rfl, rfl, by rw [blank_len]; rfl, by omega, fun p np => ?_⟩
    rw [psText_split (by intro e; rw [e] at p2; exact absurd p2 (by decide))]
    have S := same_new (o := .lst ((ps.map ptText).map V.str)) np
    have hp : upd H p (.lst ((ps.map ptText).map V.str)) p = _ := upd_same
    generalize upd H p (.lst ((ps.map ptText).map V.str)) = H1 at S hp ⊢
    refine ⟨p, rfl, ⟨_, SqL.of hp⟩, fun M nM => ?_⟩
    refine lc_list (K := K) (a := p) (xs := (ps.map ptText).map V.str) (fun i H' => ∃ ks : List (Addr × P2), Same H1 H' ∧ PtsL H' M ks ∧ ptsOf ks = ps.take i) ⟨[], same_new nM, ⟨upd_same, (fun k hk => by cases hk)⟩, rfl⟩ (fun i H' _ ⟨_, S, _⟩ => SqL.of (S _ _ hp)) ?_ ?_
    · rintro i v H' hi ⟨ks, S2, LM, em⟩
      obtain ⟨x, hx, rfl⟩ := at_item hi
      obtain ⟨r, hr1, rfl⟩ : ∃ r, ps[i]? = some r ∧ x = ptText r := by
        rw [List.getElem?_map] at hx
        cases e : ps[i]? with
        | none => rw [e] at hx; cases hx
        | some r => rw [e] at hx; exact ⟨r, rfl, (Option.some.inj hx).symm⟩
      have mr := List.mem_of_getElem? hr1
      have ok := pok.ok r mr
      have hil := (List.getElem?_eq_some_iff.mp hr1).1
      obtain ⟨g1, v1⟩ := good_tS (n := r.1) ⟨ok.1, ok.2.1⟩
      obtain ⟨g2, v2⟩ := good_tS (n := r.2) ⟨ok.2.2.1, ok.2.2.2⟩
      have kl : ks.length = i := by
        have e1 : (ptsOf ks).length = ks.length := List.length_map _
        rw [em, List.length_take] at e1
        omega
      refine ⟨rfl, tyes (ifT rfl ?_)⟩
      refine ⟨_, rfl, _, _, _, rfl, ptText_split r, Nat.le_trans (ptText_len ok) (by decide), g1, g2, fun H3 t S3 nt ht => ?_⟩
      rw [v1, v2] at ht
      have LM3 := LM.same S3
      refine ⟨_, LM3.lst, ?_, ks ++ [(t, r)], same_upd (S2.trans S3) nM, LM3.more (q := r) ht, ?_⟩
      · rw [List.length_map]
        exact small1000 (by omega)
      · show List.map (·.2) (ks ++ _) = _
        rw [List.map_append, List.take_add_one, hr1]
        exact congrArg (· ++ _) em
    · rintro H' ⟨ks, S2, LM, em⟩
      have e1 : ptsOf ks = ps := by
        rw [em]
        exact List.take_of_length_le (by rw [List.length_map, List.length_map]; exact Nat.le_refl _)
      have kl : ks.length ≤ 20 := by
        have e2 : (ptsOf ks).length = ks.length := List.length_map _
        rw [e1] at e2
        omega
      refine ⟨_, rfl, M, ks, rfl, LM, by rw [e1]; exact pok, kl, ?_⟩
      exact ⟨_, rfl, q _ M ks (S.trans S2) (S.free nM) LM e1⟩
/-! _law_is_points, of the same points -/
def spIsPts (K : PySem.W.Frag) : Sp := fun vs H Q _ => ∃ (a b : Addr) (ks ls : List (Addr × P2)), vs = [.ref a, .ref b] ∧ PtsL H a ks ∧ PtsL H b ls ∧ ptsOf ks = ptsOf ls ∧ ks.length ≤ 20 ∧ Q (.bl true) H
theorem sc__law_is_points : FnScope ["found", "due", "k"] ["found", "due"] (defScope s__law_is_points) := ⟨rfl, rfl, rfl, by decide +kernel, rfl, by decide +kernel, by decide +kernel⟩
theorem ok__law_is_points (D : Df K mg "_law_is_points" s__law_is_points ["found", "due"]) (B : Bl mg) (C__law_is_tuple : Fn P w K mg base CX0 2 "_law_is_tuple" ["found", "due"] (spIsT K)) : FnOk P w K mg base CX0 3 D.f D.fd ["found", "due"] (spIsPts K) := by
  refine D.F.ok sc__law_is_points (fun vs H Q E h => ?_) (fun cdv A outer s H vs Q E hr h => ?_)
  · obtain ⟨a, b, ks, ls, rfl, _⟩ := h
    rfl
  · obtain ⟨a, b, ks, ls, rfl, L, M, e, h20, q⟩ := h
    have nd := sc__law_is_points.nd
    have hpl : (ptsOf ks).length = ks.length := List.length_map _
    have hql : (ptsOf ls).length = ls.length := List.length_map _
    have hlen : (ks.map fun k => V.ref k.1).length = ks.length := List.length_map _
    have hlen2 : (ls.map fun k => V.ref k.1).length = ls.length := List.length_map _
    rw [e] at hpl
    refine ⟨_, pss_cons (ps_if (PW.pt (pw_or (pt_not (pt_val (pe_callB call_isi (by rfl) B.isinstance boot_isinstance (pa_cons (pv 0) (pa_cons (pe_bltn (v := .ty "list") (by rfl) B.list boot_list rfl) pa_nil))))) (pw_or1 (pt_cmpR op_ne (pe_callB call_len_seq (by rfl) B.len PySem.boot_len (pa_cons (pv 0) pa_nil)) (pe_callB call_len_seq (by rfl) B.len PySem.boot_len (pa_cons (pv 1) pa_nil)) (nomark _))))) (pss_one (ps_ret pe_bl)) pss_nil)
      (pss_cons (ps_for PassesOwn.never rfl (pi_range1 (by rfl) B.range (pa_cons (pe_callB call_len_seq (by rfl) B.len PySem.boot_len (pa_cons (pv 1) pa_nil)) pa_nil)) (pgn 2 nd) (pss_one (ps_if (pt_not (pt_val (pcall C__law_is_tuple hr (pa_cons (pe_ix ix_list (pv 0) (pv 2) (fun _ _ => rfl)) (pa_cons (pe_ix ix_list (pv 1) (pv 2) (fun _ _ => rfl)) pa_nil))))) (pss_one (ps_ret pe_bl)) pss_nil)))
      (pss_one (ps_ret pe_bl))), ?_⟩
    refine ⟨_, rfl, _, _, _, _, true, rfl, .ty "list", .base (.lst L.lst), kit_ty (by decide +kernel), true, rfl, iteF ?_⟩
    refine ⟨_, rfl, a, _, rfl, .inl (SqL.of L.lst), _, rfl, b, _, rfl, .inl (SqL.of M.lst), rfl, _, rfl, ifF (by rw [hlen, hlen2, ← hpl, ← hql, decide_eq_true rfl]; rfl) ?_⟩
    refine ⟨_, rfl, b, _, rfl, .inl (SqL.of M.lst), ((ls.length : Nat) : Int), by rw [hlen2], by omega, by omega, ?_⟩
    refine for_range (lo := 0) (n := ((ls.length : Nat) : Int).toNat) (fun i σ H' => H' = H ∧ ∃ x, σ = [some (.ref a), some (.ref b), x]) ⟨rfl, none, rfl⟩ ?_ ?_
    · rintro i σ H' hi ⟨rfl, x, rfl⟩
      obtain ⟨t, e1, m1⟩ := pts_at (ks := ks) (k := i) (by omega)
      obtain ⟨u, e2, m2⟩ := pts_at (ks := ls) (k := i) (by omega)
      rw [← e] at e2 m2
      refine ⟨_, rfl, _, rfl, _, _, _, _, rfl, rfl, SqL.of L.lst, at_of (j := i) (by omega) (by rw [List.getElem?_map, e1]; rfl), _, rfl, _, rfl, _, _, _, _, rfl, rfl, SqL.of M.lst, at_of (j := i) (by omega) (by rw [List.getElem?_map, e2]; rfl), ?_⟩
      refine ⟨t, _, [(ptAt (ptsOf ks) i).1, (ptAt (ptsOf ks) i).2], [(ptAt (ptsOf ks) i).1, (ptAt (ptsOf ks) i).2], rfl, L.tup _ m1, ⟨u, rfl, SqT.of (M.tup _ m2)⟩, true, by rw [decide_eq_true rfl], iteF ?_⟩
      exact ⟨rfl, _, rfl⟩
    · rintro σ H' ⟨rfl, x, rfl⟩
      exact q
/-! _law_marks_of -/
theorem sc__law_marks_of : FnScope ["e", "marks"] ["e"] (defScope s__law_marks_of) := ⟨rfl, rfl, rfl, by decide +kernel, rfl, by decide +kernel, by decide +kernel⟩
theorem ok__law_marks_of {S1 S2 S3 : Addr} (D : Df K mg "_law_marks_of" s__law_marks_of ["e"]) (B : Bl mg) (E1 : Ec K mg "SamePoint" S1) (E2 : Ec K mg "BadPoints" S2) (E3 : Ec K mg "BadText" S3) (mV : mg "ValueError" = none) : FnE P w K mg base 1 D.f D.fd ["e"] (spMk K S1 S2 S3) := by
  refine okE D.F sc__law_marks_of (fun z vs H Q E h => ?_) (fun cdv A out s H vs Q E z hr h => ?_)
  · obtain ⟨D', b1, b2, b3, rfl, _⟩ := h
    rfl
  · obtain ⟨D', b1, b2, b3, rfl, hz, hf, ec, k1, k2, k3, kv, q⟩ := h
    have nd := sc__law_marks_of.nd
    have hp : (z.1, z.2) ∈ (L2H.cxH CX0 P w K mg base ["e", "marks"] "_law_marks_of" (defScope s__law_marks_of) D.f cdv A out s H E z).pn := List.mem_cons_self
    refine ⟨_, pss_cons (pset 1 nd (pe_lst (pa_cons (pe_callB (r := rIsE K D' z.1) (call_isP ec hp hz hf) (by rfl) B.isinstance boot_isinstance (pa_cons (pv 0) (pa_cons (pe_glob (v := .ref S1) rfl E1.g rfl) pa_nil)))
        (pa_cons (pe_callB (r := rIsE K D' z.1) (call_isP ec hp hz hf) (by rfl) B.isinstance boot_isinstance (pa_cons (pv 0) (pa_cons (pe_glob (v := .ref S2) rfl E2.g rfl) pa_nil)))
        (pa_cons (pe_callB (r := rIsE K D' z.1) (call_isP ec hp hz hf) (by rfl) B.isinstance boot_isinstance (pa_cons (pv 0) (pa_cons (pe_glob (v := .ref S3) rfl E3.g rfl) pa_nil))) pa_nil)))))
      (pss_one (ps_ret (pe_op op_cat (pv 1) (pe_lst (pa_cons (pe_not (pe_callB (r := rIsE K D' z.1) (call_isP ec hp hz hf) (by rfl) B.isinstance boot_isinstance (pa_cons (pv 0) (pa_cons (pe_bltn (v := .ty "ValueError") (by rfl) mV (by decide +kernel) rfl) pa_nil)))) pa_nil))))), ?_⟩
    refine ⟨_, rfl, _, _, b1, rfl, (fun u h => h), k1, ?_⟩
    refine ⟨_, rfl, _, _, b2, rfl, (fun u h => h), k2, ?_⟩
    refine ⟨_, rfl, _, _, b3, rfl, (fun u h => h), k3, ?_⟩
    refine ⟨(by show 3 ≤ sizeLine; decide), fun m nm => ?_⟩
    have S1' := same_new (o := .lst [V.bl b1, V.bl b2, V.bl b3]) nm
    refine ⟨_, rfl, ?_⟩
    refine ⟨_, rfl, _, _, true, rfl, (fun u h => h), kv, true, rfl, ?_⟩
    refine ⟨(by show 1 ≤ sizeLine; decide), fun n nn' => ?_⟩
    have S2' := same_new (o := .lst [V.bl (!true)]) nn'
    refine ⟨m, n, _, _, rfl, rfl, S2' _ _ upd_same, upd_same, (by show 4 ≤ sizeLine; decide), fun r nr => ?_⟩
    exact q _ r (S1'.trans (S2'.trans (same_new nr))) (S1'.free (S2'.free nr)) upd_same
/-! points that are refused -/
def BadP (ps : List P2) : Prop := ps.length < 2 ∨ 20 < ps.length ∨ (∃ p ∈ ps, ¬ Ok p) ∨ ¬ ps.Nodup
theorem cut_to {xs : List V} {i : Int} (h : 0 ≤ i) : cutV xs none (some i) = xs.take i.toNat := by
  obtain ⟨k, rfl⟩ := Int.eq_ofNat_of_zero_le h
  unfold cutV
  rw [HT.sIx_none, HT.sIx_nat, List.drop_zero, Nat.sub_zero, Int.toNat_natCast]
  by_cases hk : k ≤ xs.length
  · rw [Nat.min_eq_left hk]
  · rw [Nat.min_eq_right (by omega), List.take_length, List.take_of_length_le (by omega)]
theorem cut_from {xs : List V} {i : Int} (h : 0 ≤ i) : cutV xs (some i) none = xs.drop i.toNat := by
  obtain ⟨k, rfl⟩ := Int.eq_ofNat_of_zero_le h
  unfold cutV
  rw [HT.sIx_none, HT.sIx_nat, Int.toNat_natCast]
  by_cases hk : k ≤ xs.length
  · rw [Nat.min_eq_left hk]
    exact List.take_of_length_le (by rw [List.length_drop]; exact Nat.le_refl _)
  · rw [Nat.min_eq_right (by omega), List.drop_length, List.take_nil, List.drop_eq_nil_of_le (by omega)]
/-- a list with one of its points twice has a shorter one with the same points -/
theorem shorter {α : Type} [DecidableEq α] : ∀ {l : List α}, ¬ l.Nodup → ∃ m : List α, (∀ x ∈ l, x ∈ m) ∧ m.length < l.length
  | [], h => absurd List.nodup_nil h
  | a :: l, h => by
    by_cases ha : a ∈ l
    · exact ⟨l, fun x hx => (List.mem_cons.mp hx).elim (fun e => by rw [e]; exact ha) fun z => z, Nat.lt_succ_self _⟩
    · have nl : ¬ l.Nodup := fun z => h (List.nodup_cons.mpr ⟨ha, z⟩)
      obtain ⟨m, h1, h2⟩ := shorter nl
      refine ⟨a :: m, fun x hx => ?_, by rw [List.length_cons, List.length_cons]; omega⟩
      rcases List.mem_cons.mp hx with e | hx
      · rw [e]; exact List.mem_cons_self
      · exact List.mem_cons_of_mem _ (h1 x hx)
theorem set_less {ks : List (Addr × P2)} {L : List (Addr × List Int)} (hn : ¬ (ptsOf ks).Nodup) (hin : ∀ p ∈ L, p ∈ kInts ks) (nd : (L.map (·.2)).Nodup) : L.length < ks.length := by
  obtain ⟨m, h1, h2⟩ := shorter hn
  have h3 := nodup_sub_length nd (B := m.map fun p => [p.1, p.2]) (fun x hx => by
    obtain ⟨p, hp, rfl⟩ := List.mem_map.mp hx
    obtain ⟨k, hk, rfl⟩ := List.mem_map.mp (hin p hp)
    exact List.mem_map.mpr ⟨k.2, h1 _ (List.mem_map.mpr ⟨k, hk, rfl⟩), rfl⟩)
  rw [List.length_map, List.length_map] at h3
  have h4 : (ptsOf ks).length = ks.length := List.length_map _
  omega
def spBad (K : PySem.W.Frag) (S2 : Addr) : Sp := fun vs H _ E => ∃ (a : Addr) (ks : List (Addr × P2)), vs = [.ref a] ∧ PtsL H a ks ∧ ks.length < 100000 ∧ BadP (ptsOf ks) ∧ ∀ H', Same H H' → E (.ref S2) none H'
/-! see_points, where it refuses -/
theorem okX_see_points {S2 : Addr} (D : Df K mg "see_points" s_see_points ["points"]) (B : Bl mg) (G : Gc mg) (E2 : Ec K mg "BadPoints" S2) : FnOk P w K mg base (L2.CX P w) 1 D.f D.fd ["points"] (spBad K S2) := by
  refine D.F.okX sc_see_points (fun vs H Q E h => ?_) (fun cdv A outer s H vs Q E hr h => ?_)
  · obtain ⟨a, ks, rfl, _⟩ := h
    rfl
  · obtain ⟨a, ks, rfl, L, h64, bad, q⟩ := h
    have nd := sc_see_points.nd
    obtain ⟨tf, hfar⟩ := G.far
    obtain ⟨tm, hmost⟩ := G.most
    have hlen : (ks.map fun k => V.ref k.1).length = ks.length := List.length_map _
    have hpl : (ptsOf ks).length = ks.length := List.length_map _
    have q := q H (Same.refl _)
    refine ⟨_, pss_cons (ps_if (PW.pt (pw_or (pt_cmpR op_lt (pe_callB call_len_seq (by rfl) B.len PySem.boot_len (pa_cons (pv 0) pa_nil)) pe_int (nomark _)) (pw_or1 (pt_cmpR op_gt (pe_callB call_len_seq (by rfl) B.len PySem.boot_len (pa_cons (pv 0) pa_nil)) (pe_glob (v := .int 20) rfl hmost ⟨_, rfl⟩) (nomark _))))) (pss_one (ps_raise rfl (takes_of rfl rfl rfl rfl) E2.make)) pss_nil)
      (pss_cons (ps_for (passes_of rfl) rfl (pi_list (pv 0)) (pg_tup rfl (pgs_cons (pgn 1 nd) (pgs_cons (pgn 2 nd) pgs_nil))) (pss_one (ps_if (PW.pt (pw_or (pt_cmpR op_gt (pe_callB call_abs (by rfl) B.abs boot_abs (pa_cons (pv 1) pa_nil)) (pe_glob (v := .int 1000000) rfl hfar ⟨_, rfl⟩) (nomark _)) (pw_or1 (pt_cmpR op_gt (pe_callB call_abs (by rfl) B.abs boot_abs (pa_cons (pv 2) pa_nil)) (pe_glob (v := .int 1000000) rfl hfar ⟨_, rfl⟩) (nomark _))))) (pss_one (ps_raise rfl (takes_of rfl rfl rfl rfl) E2.make)) pss_nil)))
      (pss_one (ps_if (pt_cmpR op_lt (pe_lenSetT rfl hr.units (by rfl) B.len (by rfl) B.set (pv 0)) (pe_callB call_len_seq (by rfl) B.len PySem.boot_len (pa_cons (pv 0) pa_nil)) (nomark _)) (pss_one (ps_raise rfl (takes_of rfl rfl rfl rfl) E2.make)) pss_nil))), ?_⟩
    by_cases h2 : ks.length < 2
    · exact ⟨_, rfl, a, _, rfl, .inl (SqL.of L.lst), _, _, rfl, rfl, _, rfl, ifT (decide_eq_true (by rw [hlen]; omega)) q⟩
    refine ⟨_, rfl, a, _, rfl, .inl (SqL.of L.lst), _, _, rfl, rfl, _, rfl, ifF (decide_eq_false (by rw [hlen]; omega)) ?_⟩
    by_cases h20 : 20 < ks.length
    · exact ⟨_, rfl, a, _, rfl, .inl (SqL.of L.lst), _, _, rfl, rfl, _, rfl, ifT (decide_eq_true (by rw [hlen]; omega)) q⟩
    refine ⟨_, rfl, a, _, rfl, .inl (SqL.of L.lst), _, _, rfl, rfl, _, rfl, ifF (decide_eq_false (by rw [hlen]; omega)) ?_⟩
    refine ⟨_, rfl, a, rfl, ⟨_, SqL.of L.lst⟩, for_list (K := K) (a := a) (xs := ks.map fun k => V.ref k.1) (fun i σ H' => H' = H ∧ (∀ k ∈ ks.take i, Ok k.2) ∧ ∃ u v, σ = [some (.ref a), u, v]) ⟨rfl, (fun k hk => by cases hk), none, none, rfl⟩ (fun i σ H' _ ⟨e, _⟩ => by rw [e]; exact SqL.of L.lst) ?_ ?_⟩
    · rintro i y σ H' hi ⟨rfl, oks, u, v, rfl⟩
      obtain ⟨k, hk, rfl⟩ := at_item hi
      have mk := List.mem_of_getElem? hk
      refine ⟨k.1, _, rfl, SqT.of (L.tup k mk), rfl, _, _, rfl, _, _, rfl, rfl, ?_⟩
      refine ⟨_, rfl, _, rfl, _, _, rfl, rfl, _, rfl, ite2 (fun _ => q) (fun hx => ?_)⟩
      refine ⟨_, rfl, _, rfl, _, _, rfl, rfl, _, rfl, ite2 (fun _ => q) (fun hy => ?_)⟩
      refine ⟨rfl, fun j hj => ?_, _, _, rfl⟩
      rw [List.take_add_one, hk] at hj
      rcases List.mem_append.mp hj with hj | hj
      · exact oks j hj
      · have e : j = k := by simpa using hj
        rw [e]
        have x1 : ¬ (1000000 : Int) < (if k.2.1 < 0 then -k.2.1 else k.2.1) := fun z => hx (decide_eq_true z)
        have y1 : ¬ (1000000 : Int) < (if k.2.2 < 0 then -k.2.2 else k.2.2) := fun z => hy (decide_eq_true z)
        unfold Ok
        split at x1 <;> split at y1 <;> omega
    · rintro σ H' ⟨rfl, oks, u, v, rfl⟩
      have eM : ks.take (ks.map fun k => V.ref k.1).length = ks := List.take_of_length_le (by rw [List.length_map]; exact Nat.le_refl _)
      rw [eM] at oks
      have dup : ¬ (ptsOf ks).Nodup := by
        rcases bad with h | h | ⟨p, hp, h⟩ | h
        · omega
        · omega
        · obtain ⟨k, hk, rfl⟩ := List.mem_map.mp hp
          exact absurd (oks k hk) h
        · exact h
      refine ⟨_, rfl, a, kInts ks, rfl, by rw [kInts_refs]; exact SqL.of L.lst, fun p hp => ?_, ?_, fun L' hs hall hnd => ?_⟩
      · obtain ⟨k, hk, rfl⟩ := List.mem_map.mp hp
        exact SqT.of (L.tup k hk)
      · unfold kInts
        rw [List.length_map]
        omega
      · have := set_less dup hs hnd
        exact ⟨_, rfl, a, _, rfl, .inl (SqL.of L.lst), _, _, rfl, rfl, _, rfl, ifT (decide_eq_true (by rw [hlen]; omega)) q⟩
/-! what a text says -/
def ReadOk (t : Str) (ps : List P2) : Prop := AllG (Txt.split t " ") ps ∧ ¬ BadP ps
theorem not_bad {ps : List P2} (h : ¬ BadP ps) : PsOk ps ∧ ps.length ≤ 20 := by
  unfold BadP at h
  refine ⟨⟨Classical.byContradiction fun z => h (.inr (.inr (.inr z))), fun p hp => Classical.byContradiction fun z => h (.inr (.inr (.inl ⟨p, hp, z⟩))), ?_⟩, ?_⟩
  · exact Nat.le_of_not_lt fun z => h (.inl z)
  · exact Nat.le_of_not_lt fun z => h (.inr (.inl z))
theorem bad_not {ps : List P2} (h : BadP ps) (k : PsOk ps) (l : ps.length ≤ 20) : False := by
  rcases h with h | h | ⟨p, hp, h⟩ | h
  · have := k.two
    omega
  · omega
  · exact h (k.ok p hp)
  · exact h k.nd
/-! see_points, where it refuses or not, with no error handled -/
def spSeeN (K : PySem.W.Frag) (S2 : Addr) : Sp := fun vs H Q E => ∃ (a : Addr) (ks : List (Addr × P2)), vs = [.ref a] ∧ PtsL H a ks ∧ ks.length < 100000 ∧ (¬ BadP (ptsOf ks) → Q .non H) ∧ (BadP (ptsOf ks) → ∀ H', Same H H' → E (.ref S2) none H')
theorem okN_see_points {S2 : Addr} (D : Df K mg "see_points" s_see_points ["points"]) (B : Bl mg) (G : Gc mg) (E2 : Ec K mg "BadPoints" S2) : FnOk P w K mg base (L2N.CX P w) 1 D.f D.fd ["points"] (spSeeN K S2) := by
  refine okN D.F sc_see_points (fun vs H Q E h => ?_) (fun cdv A outer s H vs Q E hr h => ?_)
  · obtain ⟨a, ks, rfl, _⟩ := h
    rfl
  · obtain ⟨a, ks, rfl, L, h64, good, q⟩ := h
    have nd := sc_see_points.nd
    obtain ⟨tf, hfar⟩ := G.far
    obtain ⟨tm, hmost⟩ := G.most
    have hlen : (ks.map fun k => V.ref k.1).length = ks.length := List.length_map _
    have hpl : (ptsOf ks).length = ks.length := List.length_map _
    have q := fun b => q b H (Same.refl _)
    refine ⟨_, pss_cons (ps_if (PW.pt (pw_or (pt_cmpR op_lt (pe_callB call_len_seq (by rfl) B.len PySem.boot_len (pa_cons (pv 0) pa_nil)) pe_int (nomark _)) (pw_or1 (pt_cmpR op_gt (pe_callB call_len_seq (by rfl) B.len PySem.boot_len (pa_cons (pv 0) pa_nil)) (pe_glob (v := .int 20) rfl hmost ⟨_, rfl⟩) (nomark _))))) (pss_one (L2N.ps_raise rfl (L2N.takes_of rfl rfl rfl rfl) E2.makeN)) pss_nil)
      (pss_cons (ps_for (passes_of rfl) rfl (pi_list (pv 0)) (pg_tup rfl (pgs_cons (pgn 1 nd) (pgs_cons (pgn 2 nd) pgs_nil))) (pss_one (ps_if (PW.pt (pw_or (pt_cmpR op_gt (pe_callB call_abs (by rfl) B.abs boot_abs (pa_cons (pv 1) pa_nil)) (pe_glob (v := .int 1000000) rfl hfar ⟨_, rfl⟩) (nomark _)) (pw_or1 (pt_cmpR op_gt (pe_callB call_abs (by rfl) B.abs boot_abs (pa_cons (pv 2) pa_nil)) (pe_glob (v := .int 1000000) rfl hfar ⟨_, rfl⟩) (nomark _))))) (pss_one (L2N.ps_raise rfl (L2N.takes_of rfl rfl rfl rfl) E2.makeN)) pss_nil)))
      (pss_one (ps_if (pt_cmpR op_lt (pe_lenSetT rfl hr.units (by rfl) B.len (by rfl) B.set (pv 0)) (pe_callB call_len_seq (by rfl) B.len PySem.boot_len (pa_cons (pv 0) pa_nil)) (nomark _)) (pss_one (L2N.ps_raise rfl (L2N.takes_of rfl rfl rfl rfl) E2.makeN)) pss_nil))), ?_⟩
    by_cases h2 : ks.length < 2
    · exact ⟨_, rfl, a, _, rfl, .inl (SqL.of L.lst), _, _, rfl, rfl, _, rfl, ifT (decide_eq_true (by rw [hlen]; omega)) (q (.inl (by omega)))⟩
    refine ⟨_, rfl, a, _, rfl, .inl (SqL.of L.lst), _, _, rfl, rfl, _, rfl, ifF (decide_eq_false (by rw [hlen]; omega)) ?_⟩
    by_cases h20 : 20 < ks.length
    · exact ⟨_, rfl, a, _, rfl, .inl (SqL.of L.lst), _, _, rfl, rfl, _, rfl, ifT (decide_eq_true (by rw [hlen]; omega)) (q (.inr (.inl (by omega))))⟩
    refine ⟨_, rfl, a, _, rfl, .inl (SqL.of L.lst), _, _, rfl, rfl, _, rfl, ifF (decide_eq_false (by rw [hlen]; omega)) ?_⟩
    refine ⟨_, rfl, a, rfl, ⟨_, SqL.of L.lst⟩, for_list (K := K) (a := a) (xs := ks.map fun k => V.ref k.1) (fun i σ H' => H' = H ∧ (∀ k ∈ ks.take i, Ok k.2) ∧ ∃ u v, σ = [some (.ref a), u, v]) ⟨rfl, (fun k hk => by cases hk), none, none, rfl⟩ (fun i σ H' _ ⟨e, _⟩ => by rw [e]; exact SqL.of L.lst) ?_ ?_⟩
    · rintro i y σ H' hi ⟨rfl, oks, u, v, rfl⟩
      obtain ⟨k, hk, rfl⟩ := at_item hi
      have mk := List.mem_of_getElem? hk
      refine ⟨k.1, _, rfl, SqT.of (L.tup k mk), rfl, _, _, rfl, _, _, rfl, rfl, ?_⟩
      have mp : k.2 ∈ ptsOf ks := List.mem_map.mpr ⟨k, mk, rfl⟩
      refine ⟨_, rfl, _, rfl, _, _, rfl, rfl, _, rfl, ite2 (fun hx => q (.inr (.inr (.inl ⟨_, mp, fun o => ?_⟩)))) (fun hx => ?_)⟩
      · have x1 : (1000000 : Int) < (if k.2.1 < 0 then -k.2.1 else k.2.1) := of_decide_eq_true hx
        unfold Ok at o
        split at x1 <;> omega
      refine ⟨_, rfl, _, rfl, _, _, rfl, rfl, _, rfl, ite2 (fun hy => q (.inr (.inr (.inl ⟨_, mp, fun o => ?_⟩)))) (fun hy => ?_)⟩
      · have y1 : (1000000 : Int) < (if k.2.2 < 0 then -k.2.2 else k.2.2) := of_decide_eq_true hy
        unfold Ok at o
        split at y1 <;> omega
      refine ⟨rfl, fun j hj => ?_, _, _, rfl⟩
      rw [List.take_add_one, hk] at hj
      rcases List.mem_append.mp hj with hj | hj
      · exact oks j hj
      · have e : j = k := by simpa using hj
        rw [e]
        have x1 : ¬ (1000000 : Int) < (if k.2.1 < 0 then -k.2.1 else k.2.1) := fun z => hx (decide_eq_true z)
        have y1 : ¬ (1000000 : Int) < (if k.2.2 < 0 then -k.2.2 else k.2.2) := fun z => hy (decide_eq_true z)
        unfold Ok
        split at x1 <;> split at y1 <;> omega
    · rintro σ H' ⟨rfl, oks, u, v, rfl⟩
      have eM : ks.take (ks.map fun k => V.ref k.1).length = ks := List.take_of_length_le (by rw [List.length_map]; exact Nat.le_refl _)
      rw [eM] at oks
      refine ⟨_, rfl, a, kInts ks, rfl, by rw [kInts_refs]; exact SqL.of L.lst, fun p hp => ?_, ?_, fun L' hs hall hnd => ?_⟩
      · obtain ⟨k, hk, rfl⟩ := List.mem_map.mp hp
        exact SqT.of (L.tup k hk)
      · unfold kInts
        rw [List.length_map]
        omega
      · by_cases hn : (ptsOf ks).Nodup
        · have := set_len hn hall
          refine ⟨_, rfl, a, _, rfl, .inl (SqL.of L.lst), _, _, rfl, rfl, _, rfl, ifF (decide_eq_false (by rw [hlen]; omega)) (good fun b => bad_not b ⟨hn, fun p hp => ?_, by omega⟩ (by omega))⟩
          obtain ⟨k, hk, rfl⟩ := List.mem_map.mp hp
          exact oks k hk
        · have := set_less hn hs hnd
          exact ⟨_, rfl, a, _, rfl, .inl (SqL.of L.lst), _, _, rfl, rfl, _, rfl, ifT (decide_eq_true (by rw [hlen]; omega)) (q (.inr (.inr (.inr hn))))⟩
/-! number_of, of any word -/
def spNumX (S3 : Addr) : Sp := fun vs H Q E => ∃ w : Str, vs = [.str w] ∧ w.length ≤ 3000 ∧ (GoodL (TL.tl w) → Q (.int (valL (TL.tl w))) H) ∧ (¬ GoodL (TL.tl w) → E (.ref S3) none H)
theorem okX_number_of {S3 : Addr} (D : Df K mg "number_of" s_number_of ["word"]) (B : Bl mg) (G : Gt mg) (E3 : Ec K mg "BadText" S3) : FnOk P w K mg base (L2.CX P w) 1 D.f D.fd ["word"] (spNumX S3) := by
  refine D.F.okX sc_number_of (fun vs H Q E h => ?_) (fun cdv A outer s H vs Q E hr h => ?_)
  · obtain ⟨w, rfl, _⟩ := h
    rfl
  · obtain ⟨w, rfl, hw, q, bad⟩ := h
    have nd := sc_number_of.nd
    obtain ⟨tf, hfig⟩ := G.fig
    obtain ⟨tl, hlong⟩ := G.long
    have hsz : sizeLine = 16777216 := sizeLine_eq
    refine ⟨_, pss_cons (pset 1 nd (pv 0))
      (pss_cons (ps_if (pt_cmpR op_eq (pe_slice sl_str (pv 0) po_none (po_some pe_int)) pe_str (nomark _)) (pss_one (pset 1 nd (pe_slice sl_str (pv 0) (po_some pe_int) po_none))) pss_nil)
      (pjoin (u := fun D' σ H' => ∃ f : Str, σ = [some (.str w), some (.str f), none] ∧ H' = H ∧ TL.tl f = figL (TL.tl w) ∧ D'.rt = Q)
      (pss_cons (ps_if (PW.pt (pw_or (pt_cmpR op_lt (pe_callB call_len_str (by rfl) B.len PySem.boot_len (pa_cons (pv 1) pa_nil)) pe_int (nomark _)) (pw_or (pt_cmpR op_gt (pe_callB call_len_str (by rfl) B.len PySem.boot_len (pa_cons (pv 1) pa_nil)) (pe_glob (v := .int 7) rfl hlong ⟨_, rfl⟩) (nomark _)) (pw_or1 (PW.pt (pw_and (pt_cmpR op_eq (pe_ix ix_str (pv 1) pe_int (fun _ _ => rfl)) pe_str (nomark _)) (pw_and1 (pt_cmpR op_ne (pv 0) pe_str (nomark _))))))))) (pss_one (ps_raise rfl (takes_of rfl rfl rfl rfl) E3.make)) pss_nil)
      (pss_cons (ps_for (passes_of rfl) rfl (pi_str (pv 1)) (pgn 2 nd) (pss_one (ps_if (pt_cmpR op_notIn_sign (pv 2) (pe_glob (v := .str "0123456789") rfl hfig ⟨_, rfl⟩) (by rfl)) (pss_one (ps_raise rfl (takes_of rfl rfl rfl rfl) E3.make)) pss_nil)))
      (pss_one (ps_ret (pe_callTy call_int_str (by rfl) B.int boot_int (pa_cons (pv 0) pa_nil)))))) ?_)), ?_⟩
    · rintro D' σ H' ⟨f, rfl, rfl, ef, eD⟩
      have fl := TL.len_tl f
      rw [ef] at fl
      have wl := TL.len_tl w
      have fw := figL_len (TL.tl w)
      by_cases h1 : f.length < 1
      · exact ⟨_, rfl, _, rfl, by omega, _, _, rfl, rfl, _, rfl, ifT (decide_eq_true (by omega)) (bad fun g => by have := g.one; omega)⟩
      refine ⟨_, rfl, _, rfl, by omega, _, _, rfl, rfl, _, rfl, ifF (decide_eq_false (by omega)) ?_⟩
      by_cases h7 : 7 < f.length
      · exact ⟨_, rfl, _, rfl, by omega, _, _, rfl, rfl, _, rfl, ifT (decide_eq_true (by omega)) (bad fun g => by have := g.most; omega)⟩
      refine ⟨_, rfl, _, rfl, by omega, _, _, rfl, rfl, _, rfl, ifF (decide_eq_false (by omega)) ?_⟩
      obtain ⟨c, r, ec⟩ : ∃ c r, TL.tl f = c :: r := by
        cases e : TL.tl f with
        | nil =>
          rw [← ef, e] at fl
          exact absurd fl (by simp; omega)
        | cons c r => exact ⟨c, r, rfl⟩
      have h0 : atI (TL.tl f) 0 = some c := atI_nat (j := 0) (by rw [ec]; rfl)
      refine ⟨_, rfl, f, 0, c, rfl, rfl, by omega, h0, rfl, _, rfl, ?_⟩
      have good : (c = 48 → TL.tl w = [48]) → NumText.AllDigits (figL (TL.tl w)) → GoodL (TL.tl w) := fun hz hd => ⟨by omega, by omega, fun hh => hz (by rw [← ef, ec] at hh; simpa using hh), hd⟩
      by_cases hc : c = 48
      · refine ifT (by rw [str_dec, zero_tl]; exact decide_eq_true (by rw [hc])) ?_
        by_cases ew : TL.tl w = [48]
        · refine ⟨_, rfl, rfl, _, rfl, ifF (by rw [str_dec, ew, zero_tl]; rfl) ?_⟩
          refine ⟨_, rfl, f, rfl, for_it walk_str (fun i σ H2 => H2 = H' ∧ (∀ x ∈ (TL.tl f).take i, 48 ≤ x ∧ x ≤ 57) ∧ ∃ r, σ = [some (.str w), some (.str f), r]) ⟨rfl, (fun x hx => by cases hx), none, rfl⟩ (fun _ _ _ _ _ => trivial) ?_ ?_⟩
          · rintro i x σ H1 H2 hi ⟨rfl, dig, r, rfl⟩ ⟨rfl, d, hd, rfl⟩
            have hd2 : (TL.tl f)[i]? = some d := by
              show f.cps.toList[i]? = _
              rw [Array.getElem?_toList]
              exact hd
            by_cases hq : 48 ≤ d ∧ d ≤ 57
            · refine ⟨_, rfl, d, _, rfl, rfl, _, rfl, ifF ?_ ⟨rfl, fun z hz => ?_, _, rfl⟩⟩
              · rw [decide_eq_true (fig_mem.mpr hq)]
                rfl
              · rw [List.take_add_one, hd2] at hz
                rcases List.mem_append.mp hz with hz | hz
                · exact dig z hz
                · have e : z = d := by simpa using hz
                  rw [e]
                  exact hq
            · refine ⟨_, rfl, d, _, rfl, rfl, _, rfl, ifT ?_ (bad fun g => hq (g.dig d ?_))⟩
              · rw [decide_eq_false (fun z => hq (fig_mem.mp z))]
                rfl
              · rw [← ef]
                exact List.mem_of_getElem? hd2
          · rintro σ H1 ⟨rfl, dig, r, rfl⟩
            have hsz2 : f.cps.size = (TL.tl f).length := (Array.length_toList).symm
            rw [hsz2, List.take_length, ef] at dig
            have g := good (fun _ => ew) dig
            obtain ⟨gi, gl⟩ := good_int g
            refine ⟨_, rfl, w, _, rfl, gi, by omega, ?_⟩
            show D'.rt _ _
            rw [eD]
            exact q g
        · exact ⟨_, rfl, rfl, _, rfl, ifT (by rw [str_dec, zero_tl, decide_eq_false ew]; rfl) (bad fun g => ew (g.nought (by rw [← ef, ec, hc]; rfl)))⟩
      · refine ifF (by rw [str_dec, zero_tl]; exact decide_eq_false (fun z => hc (by have z2 : [c] = [48] := z; simpa using z2))) ?_
        refine ⟨_, rfl, f, rfl, for_it walk_str (fun i σ H2 => H2 = H' ∧ (∀ x ∈ (TL.tl f).take i, 48 ≤ x ∧ x ≤ 57) ∧ ∃ r, σ = [some (.str w), some (.str f), r]) ⟨rfl, (fun x hx => by cases hx), none, rfl⟩ (fun _ _ _ _ _ => trivial) ?_ ?_⟩
        · rintro i x σ H1 H2 hi ⟨rfl, dig, r, rfl⟩ ⟨rfl, d, hd, rfl⟩
          have hd2 : (TL.tl f)[i]? = some d := by
            show f.cps.toList[i]? = _
            rw [Array.getElem?_toList]
            exact hd
          by_cases hq : 48 ≤ d ∧ d ≤ 57
          · refine ⟨_, rfl, d, _, rfl, rfl, _, rfl, ifF ?_ ⟨rfl, fun z hz => ?_, _, rfl⟩⟩
            · rw [decide_eq_true (fig_mem.mpr hq)]
              rfl
            · rw [List.take_add_one, hd2] at hz
              rcases List.mem_append.mp hz with hz | hz
              · exact dig z hz
              · have e : z = d := by simpa using hz
                rw [e]
                exact hq
          · refine ⟨_, rfl, d, _, rfl, rfl, _, rfl, ifT ?_ (bad fun g => hq (g.dig d ?_))⟩
            · rw [decide_eq_false (fun z => hq (fig_mem.mp z))]
              rfl
            · rw [← ef]
              exact List.mem_of_getElem? hd2
        · rintro σ H1 ⟨rfl, dig, r, rfl⟩
          have hsz2 : f.cps.size = (TL.tl f).length := (Array.length_toList).symm
          rw [hsz2, List.take_length, ef] at dig
          have g := good (fun e => absurd e hc) dig
          obtain ⟨gi, gl⟩ := good_int g
          refine ⟨_, rfl, w, _, rfl, gi, by omega, ?_⟩
          show D'.rt _ _
          rw [eD]
          exact q g
    · refine ⟨_, rfl, ?_⟩
      refine ⟨_, rfl, _, rfl, w, rfl, by omega, rfl, _, rfl, ?_⟩
      rw [str_dec, cut1, minus_tl]
      by_cases hm : (TL.tl w).take 1 = [45]
      · refine ifT (decide_eq_true hm) ?_
        refine ⟨_, rfl, _, rfl, w, rfl, by omega, ?_⟩
        exact ⟨_, rfl, rfl, by rw [cutR]; exact (if_pos hm).symm, rfl⟩
      · exact ifF (decide_eq_false hm) ⟨_, rfl, rfl, (if_neg hm).symm, rfl⟩
/-! point_of, of any word -/
def spPtX (S3 : Addr) : Sp := fun vs H Q E => ∃ w : Str, vs = [.str w] ∧ w.length ≤ 3000 ∧ (∀ p, GoodP w p → ∀ H' t, Same H H' → H t = none → H' t = some (.tup [.int (Prod.fst (α := Int) (β := Int) p), .int p.2]) → Q (.ref t) H') ∧ ((∀ p, ¬ GoodP w p) → ∀ H', Same H H' → E (.ref S3) none H')
theorem okX_point_of {S3 : Addr} (D : Df K mg "point_of" s_point_of ["word"]) (B : Bl mg) (E3 : Ec K mg "BadText" S3) (X_number_of : Fn P w K mg base (L2.CX P w) 1 "number_of" ["word"] (spNumX S3)) : FnOk P w K mg base (L2.CX P w) 2 D.f D.fd ["word"] (spPtX S3) := by
  refine D.F.okX sc_point_of (fun vs H Q E h => ?_) (fun cdv A outer s H vs Q E hr h => ?_)
  · obtain ⟨w, rfl, _⟩ := h
    rfl
  · obtain ⟨w, rfl, hl, q, bad⟩ := h
    have nd := sc_point_of.nd
    have hsz : sizeLine = 16777216 := sizeLine_eq
    obtain ⟨pl, pm⟩ := parts_facts w
    refine ⟨_, pss_cons (pset 1 nd (pe_split (pv 0) pe_str))
      (pss_cons (ps_if (pt_cmpR op_ne (pe_callB call_len_seq (by rfl) B.len PySem.boot_len (pa_cons (pv 1) pa_nil)) pe_int (nomark _)) (pss_one (ps_raise rfl (takes_of rfl rfl rfl rfl) E3.make)) pss_nil)
      (pss_one (ps_ret (pe_tup (pa_cons (pcallX X_number_of (takes_of rfl rfl rfl rfl) hr (pa_cons (pe_ix ix_list (pv 1) pe_int (fun _ _ => rfl)) pa_nil)) (pa_cons (pcallX X_number_of (takes_of rfl rfl rfl rfl) hr (pa_cons (pe_ix ix_list (pv 1) pe_int (fun _ _ => rfl)) pa_nil)) pa_nil)))))), ?_⟩
    refine ⟨_, rfl, ⟨_, rfl⟩, w, _, rfl, rfl, by rw [comma_len]; rfl, by omega, fun p np => ?_⟩
    have S := same_new (o := .lst ((Txt.split w ",").map V.str)) np
    have hp : upd H p (.lst ((Txt.split w ",").map V.str)) p = _ := upd_same
    generalize upd H p (.lst ((Txt.split w ",").map V.str)) = H1 at S hp ⊢
    by_cases h2 : (Txt.split w ",").length = 2
    · obtain ⟨a, b, es⟩ : ∃ a b, Txt.split w "," = [a, b] := by
        match Txt.split w ",", h2 with
        | [a, b], _ => exact ⟨a, b, rfl⟩
      rw [es] at hp pm
      refine ⟨_, rfl, p, _, rfl, .inl (SqL.of hp), rfl, _, rfl, ifF (by rfl) ?_⟩
      refine ⟨_, rfl, _, _, _, _, rfl, rfl, SqL.of hp, at0, ?_⟩
      have la := pm a List.mem_cons_self
      have lb := pm b (List.mem_cons_of_mem _ List.mem_cons_self)
      refine ⟨a, rfl, by omega, fun ga => ?_, fun na => bad (fun p' ⟨c, d, e, gc, _⟩ => ?_) _ S⟩
      · refine ⟨_, rfl, _, _, _, _, rfl, rfl, SqL.of hp, at1, ?_⟩
        refine ⟨b, rfl, by omega, fun gb => ?_, fun nb => bad (fun p' ⟨c, d, e, _, gd, _⟩ => ?_) _ S⟩
        · refine ⟨(by show 2 ≤ sizeLine; decide), fun t nt => ?_⟩
          exact q (valL (TL.tl a), valL (TL.tl b)) ⟨a, b, es, ga, gb, rfl⟩ _ t (S.trans (same_new nt)) (S.free nt) upd_same
        · rw [es] at e
          injection e with _ e
          injection e with e2 _
          rw [← e2] at gd
          exact nb gd
      · rw [es] at e
        injection e with e1 _
        rw [← e1] at gc
        exact na gc
    · refine ⟨_, rfl, p, _, rfl, .inl (SqL.of hp), rfl, _, rfl, ifT ?_ (bad (fun p' ⟨c, d, e, _⟩ => h2 (by rw [e]; rfl)) _ S)⟩
      rw [List.length_map, dec_int]
      have : ¬ ((Txt.split w ",").length : Int) = 2 := by omega
      simp [this]
/-! read, of any text -/
def spReadX (K : PySem.W.Frag) (S3 : Addr) : Sp := fun vs H Q E => ∃ t : Str, vs = [.str t] ∧ t.length ≤ 3000 ∧ (∀ ps, ReadOk t ps → ∀ H' p ks, Same H H' → H p = none → PtsL H' p ks → ptsOf ks = ps → Q (.ref p) H') ∧ ((∀ ps, ¬ ReadOk t ps) → ∀ H', Same H H' → E (.ref S3) none H')
theorem okX_read {S2 S3 : Addr} (D : Df K mg "read" s_read ["text"]) (B : Bl mg) (E2 : Ec K mg "BadPoints" S2) (E3 : Ec K mg "BadText" S3)
    (N_see_points : Fn P w K mg base (L2N.CX P w) 1 "see_points" ["points"] (spSeeN K S2)) (X_point_of : Fn P w K mg base (L2.CX P w) 2 "point_of" ["word"] (spPtX S3)) : FnOk P w K mg base (L2.CX P w) 3 D.f D.fd ["text"] (spReadX K S3) := by
  refine D.F.okX sc_read (fun vs H Q E h => ?_) (fun cdv A outer s H vs Q E hr h => ?_)
  · obtain ⟨t, rfl, _⟩ := h
    rfl
  · obtain ⟨t, rfl, hl, q, bad⟩ := h
    have nd := sc_read.nd
    have hsz : sizeLine = 16777216 := sizeLine_eq
    obtain ⟨ws, ews⟩ : ∃ ws, ws = Txt.split t " " := ⟨_, rfl⟩
    obtain ⟨_, _, wn, wl⟩ := words_facts t
    rw [← ews] at wn wl
    refine ⟨_, pss_cons (ps_setLcX (i := 1) (own := [("word", 2)]) (g := gName 2) (tt := tYes) rfl rfl rfl (takes_of rfl rfl rfl rfl) nd rfl rfl (sw_true rfl rfl rfl (by decide +kernel)) (by decide +kernel) (pi_list (pe_split (pv 0) pe_str))
          (blkOk_by (own := [("word", 2)]) (N := ["text", "points", "word"]) (sc := defScope s_read) (by decide +kernel)) (fun _ _ _ _ _ => pg_name (i := 2) nd rfl (Or.inl rfl)) (fun _ _ _ _ _ => pts_nil)
          (fun _ _ _ _ _ xe pass => pe_callS X_point_of.ok (hr.mono (by decide)) rfl X_point_of.g X_point_of.kp X_point_of.b pass (pa_cons (pv 2) pa_nil)))
      (pss_cons (L2H.ps_try_onlyX rfl rfl ⟨rfl, by decide, .inl E2.g⟩ (L2H.passesAt_of rfl) (takes_of rfl rfl rfl rfl) (fun W pn xe tkN tkP po => pss_one (ps_expr (pcallN N_see_points tkN hr (pa_cons (pv 1) pa_nil))))
          (fun a oe cls d pn hz hf tkS hot => pss_one (L2H.ps_raiseH hot tkS E3.makeN)))
      (pss_one (ps_ret (pv 1)))), ?_⟩
    refine ⟨_, rfl, ⟨_, rfl⟩, _, _, rfl, rfl, by rw [blank_len]; rfl, by omega, fun p np => ?_⟩
    rw [← ews]
    have S := same_new (o := .lst (ws.map V.str)) np
    have hp : upd H p (.lst (ws.map V.str)) p = _ := upd_same
    generalize upd H p (.lst (ws.map V.str)) = H1 at S hp ⊢
    refine ⟨p, rfl, ⟨_, SqL.of hp⟩, fun M nM => ?_⟩
    refine lc_list (K := K) (a := p) (xs := ws.map V.str) (fun i H' => ∃ ks : List (Addr × P2), Same H1 H' ∧ PtsL H' M ks ∧ AllG (ws.take i) (ptsOf ks)) ⟨[], same_new nM, ⟨upd_same, (fun k hk => by cases hk)⟩, trivial⟩ (fun i H' _ ⟨_, S, _⟩ => SqL.of (S _ _ hp)) ?_ ?_
    · rintro i v H' hi ⟨ks, S2, LM, em⟩
      obtain ⟨x, hx, rfl⟩ := at_item hi
      have mx := List.mem_of_getElem? hx
      have hil := (List.getElem?_eq_some_iff.mp hx).1
      have kl : ks.length = i := by
        have e1 : (ptsOf ks).length = ks.length := List.length_map _
        rw [em.len, List.length_take] at e1
        omega
      refine ⟨rfl, tyes (ifT rfl ?_)⟩
      refine ⟨_, rfl, x, rfl, Nat.le_trans (wl x mx) hl, fun r gr H3 t3 S3 nt ht => ?_, fun ng H3 S3 => bad (fun ps hps => ?_) _ (S.trans (S2.trans S3))⟩
      · have LM3 := LM.same S3
        refine ⟨_, LM3.lst, ?_, ks ++ [(t3, r)], same_upd (S2.trans S3) nM, LM3.more (q := r) ht, ?_⟩
        · rw [List.length_map]
          omega
        · have e1 : ptsOf (ks ++ [(t3, r)]) = ptsOf ks ++ [r] := by
            unfold ptsOf
            rw [List.map_append]
            rfl
          rw [e1, List.take_add_one, hx]
          exact em.more gr
      · have hag := hps.1
        rw [← ews] at hag
        obtain ⟨p', _, gp⟩ := hag.mem mx
        exact ng p' gp
    · rintro H' ⟨ks, S2, LM, em⟩
      have eM : ws.take (ws.map V.str).length = ws := List.take_of_length_le (by rw [List.length_map]; exact Nat.le_refl _)
      rw [eM] at em
      have kl : ks.length = ws.length := by
        have e1 : (ptsOf ks).length = ks.length := List.length_map _
        rw [em.len] at e1
        exact e1.symm
      refine ⟨_, rfl, M, ks, rfl, LM, by omega, fun nb => ?_, fun hb H3 S3 => ?_⟩
      · exact ⟨_, rfl, q (ptsOf ks) ⟨by rw [← ews]; exact em, nb⟩ _ M ks (S.trans S2) (S.free nM) LM rfl⟩
      · refine ⟨true, E2.exm E2.me, fun _ a ha => ?_, fun z => nomatch z⟩
        refine bad (fun ps hps => hps.2 ?_) _ (S.trans (S2.trans S3))
        have hag := hps.1
        rw [← ews] at hag
        rw [hag.uniq em]
        exact hb
/-! _law_sign_by -/
theorem pick94 (x : Str) (i : Int) (h : x.length = 94) : ∃ c, atI x.cps.toList (i % 94) = some c := by
  have := pickC x (by omega) i
  rw [h] at this
  exact this
def spSign : Sp := fun vs H Q _ => ∃ n : Int, vs = [.int n] ∧ ∀ c : Nat, Q (.str ⟨#[c]⟩) H
theorem sc__law_sign_by : FnScope ["cell", "some"] ["cell"] (defScope s__law_sign_by) := ⟨rfl, rfl, rfl, by decide +kernel, rfl, by decide +kernel, by decide +kernel⟩
theorem ok__law_sign_by (D : Df K mg "_law_sign_by" s__law_sign_by ["cell"]) : FnOk P w K mg base CX0 1 D.f D.fd ["cell"] spSign := by
  refine D.F.ok sc__law_sign_by (fun vs H Q E h => ?_) (fun cdv A outer s H vs Q E hr h => ?_)
  · obtain ⟨n, rfl, _⟩ := h
    rfl
  · obtain ⟨n, rfl, q⟩ := h
    have nd := sc__law_sign_by.nd
    refine ⟨_, pss_cons (pset 1 nd pe_str)
      (pss_cons (pset 1 nd (pe_op op_add_str (pv 1) pe_str))
      (pss_one (ps_ret (pe_ix ix_str (pv 1) (pe_op op_mod (pv 0) pe_int) (fun _ _ => rfl))))), ?_⟩
    refine ⟨_, rfl, _, _, rfl, rfl, by decide +kernel, ?_⟩
    exact ⟨_, rfl, _, rfl, _, _, rfl, rfl, (by show (0 : Int) < _; decide), _, _, _, rfl, rfl, by decide +kernel, Classical.choose_spec (pick94 _ n (by decide +kernel)), q _⟩
/-! _law_spoiled -/
theorem sum_ins (l : List Str) (i : Nat) (z : Str) : ((l.take i ++ [z] ++ l.drop i).map (·.length)).sum = (l.map (·.length)).sum + z.length ∧ (l.take i ++ [z] ++ l.drop i).length = l.length + 1 := by
  have e1 : ((l.take i).map (·.length)).sum + ((l.drop i).map (·.length)).sum = (l.map (·.length)).sum := by
    rw [← List.sum_append, ← List.map_append, List.take_append_drop]
  have e2 : (l.take i).length + (l.drop i).length = l.length := by rw [← List.length_append, List.take_append_drop]
  constructor
  · rw [List.map_append, List.map_append, List.sum_append, List.sum_append]
    simp only [List.map_cons, List.map_nil, List.sum_cons, List.sum_nil]
    omega
  · rw [List.length_append, List.length_append]
    simp only [List.length_cons, List.length_nil]
    omega
theorem sum_erase (l : List Str) (i : Nat) : ((l.eraseIdx i).map (·.length)).sum ≤ (l.map (·.length)).sum := by
  induction l generalizing i with
  | nil => simp
  | cons a l ih =>
    cases i with
    | zero =>
      rw [List.eraseIdx_cons_zero, List.map_cons, List.sum_cons]
      omega
    | succ i =>
      rw [List.eraseIdx_cons_succ, List.map_cons, List.map_cons, List.sum_cons, List.sum_cons]
      have := ih i
      omega
theorem map_erase {α : Type} (f : α → V) (l : List α) (i : Nat) : (l.map f).eraseIdx i = (l.eraseIdx i).map f := by
  induction l generalizing i with
  | nil => simp
  | cons a l ih =>
    cases i with
    | zero => simp
    | succ i => simp [ih i]
theorem pick5 (x : Str) (i : Int) (h : x.length = 5) : ∃ c, atI x.cps.toList (i % 5) = some c := by
  have := pickC x (by omega) i
  rw [h] at this
  exact this
theorem len3 (x y z : Str) (hx : x.length ≤ 500) (hy : y.length ≤ 500) (hz : z.length ≤ 500) : (x ++ y ++ z).length ≤ 3000 := by
  rw [app_len, app_len]
  omega
def someL : List Str := ["1000000,0", "1000001,0", "0,-1000000", "0,-1000001", "00,1", "1,01", "-0,1", "1_0,2", "+1,2", "1,2,3", "", "5", "5,", "88,-99"]
def lastL : List Str := ["", " ", "1,2", "1,2 1,2", "0,0 1,1", "0,0  1,1", ",, 1,1"]
theorem someL_len : ∀ z ∈ someL, z.length ≤ 20 := by decide +kernel
theorem lastL_len : ∀ z ∈ lastL, z.length ≤ 20 := by decide +kernel
def spSpoilT : Sp := fun vs H Q _ => ∃ (t : Str) (c : Int), vs = [.str t, .int c] ∧ t.length ≤ 400 ∧ ∀ H' x, Same H H' → Str.length x ≤ 3000 → Q (.str x) H'
theorem sc__law_spoiled : FnScope ["text", "cell", "place", "rest", "ahead", "way", "words", "at", "some"] ["text", "cell"] (defScope s__law_spoiled) := ⟨rfl, rfl, rfl, by decide +kernel, rfl, by decide +kernel, by decide +kernel⟩
theorem ok__law_spoiled (D : Df K mg "_law_spoiled" s__law_spoiled ["text", "cell"]) (B : Bl mg) (C__law_sign_by : Fn P w K mg base CX0 1 "_law_sign_by" ["cell"] spSign) : FnOk P w K mg base CX0 2 D.f D.fd ["text", "cell"] spSpoilT := by
  refine D.F.ok sc__law_spoiled (fun vs H Q E h => ?_) (fun cdv A outer s H vs Q E hr h => ?_)
  · obtain ⟨t, c, rfl, _⟩ := h
    rfl
  · obtain ⟨t, c, rfl, hl, q⟩ := h
    have nd := sc__law_spoiled.nd
    have hsz : sizeLine = 16777216 := sizeLine_eq
    refine ⟨_, pss_cons (pset 2 nd (pe_op op_mod (pe_op op_fdiv (pv 1) pe_int) (pe_op op_add (pe_callB call_len_str (by rfl) B.len PySem.boot_len (pa_cons (pv 0) pa_nil)) pe_int)))
      (pss_cons (pset 3 nd (pe_op op_fdivA (pe_op op_fdiv (pv 1) pe_int) (pe_op op_add (pe_callB call_len_str (by rfl) B.len PySem.boot_len (pa_cons (pv 0) pa_nil)) pe_int)))
      (pss_cons (pset 4 nd (pe_slice sl_str (pv 0) po_none (po_some (pv 2))))
      (pss_cons (pset 5 nd (pe_op op_mod (pv 1) pe_int))
      (pss_cons (pset 6 nd (pe_split (pv 0) pe_str))
      (pss_cons (pset 7 nd (pe_op op_mod (pv 3) (pe_callB call_len_seq (by rfl) B.len PySem.boot_len (pa_cons (pv 6) pa_nil))))
      (pss_cons (pset 8 nd (pe_lst (pa_cons pe_str (pa_cons pe_str (pa_cons pe_str (pa_cons pe_str (pa_cons pe_str (pa_cons pe_str (pa_cons pe_str (pa_cons pe_str (pa_cons pe_str (pa_cons pe_str pa_nil))))))))))))
      (pss_cons (pset 8 nd (pe_op op_cat (pv 8) (pe_lst (pa_cons pe_str (pa_cons pe_str (pa_cons pe_str (pa_cons pe_str pa_nil)))))))
      (pss_cons (ps_if (pt_cmpR op_eq (pv 5) pe_int (nomark _)) (pss_one (ps_ret (pe_op op_add_str (pe_op op_add_str (pv 4) (pcall C__law_sign_by hr (pa_cons (pv 3) pa_nil))) (pe_slice sl_str (pv 0) (po_some (pv 2)) po_none)))) pss_nil)
      (pss_cons (ps_if (pt_cmpR op_eq (pv 5) pe_int (nomark _)) (pss_one (ps_ret (pe_op op_add_str (pe_op op_add_str (pv 4) (pcall C__law_sign_by hr (pa_cons (pv 3) pa_nil))) (pe_slice sl_str (pv 0) (po_some (pe_op op_add (pv 2) pe_int)) po_none)))) pss_nil)
      (pss_cons (ps_if (pt_cmpR op_eq (pv 5) pe_int (nomark _)) (pss_one (ps_ret (pe_op op_add_str (pe_op op_add_str (pv 4) pe_str) (pe_slice sl_str (pv 0) (po_some (pe_op op_add (pv 2) (pe_op op_mod (pv 3) pe_int))) po_none)))) pss_nil)
      (pss_cons (ps_if (pt_cmpR op_eq (pv 5) pe_int (nomark _)) (pss_one (ps_ret (pe_op op_add_str (pv 4) (pe_slice sl_str (pv 0) (po_some (pe_op op_add (pv 2) pe_int)) po_none)))) pss_nil)
      (pss_cons (ps_if (pt_cmpR op_eq (pv 5) pe_int (nomark _)) (pss_cons (ps_expr (pe_bm PySem.F.plainAttrs_list PySem.F.slot_list_insert PySem.F.type_list_insert mt_insert (pv 6) (pa_cons (pe_op op_mod (pe_op op_fdiv (pv 3) pe_int) (pe_op op_add (pe_callB call_len_seq (by rfl) B.len PySem.boot_len (pa_cons (pv 6) pa_nil)) pe_int)) (pa_cons (pe_ix ix_list (pv 8) (pe_op op_mod (pv 3) pe_int) (fun _ _ => rfl)) pa_nil))))
      (pss_one (ps_ret (pe_join pe_str (pv 6))))) pss_nil)
      (pss_cons (ps_if (pt_cmpR op_eq (pv 5) pe_int (nomark _)) (pss_cons (ps_expr (pe_bm PySem.F.plainAttrs_list PySem.F.slot_list_insert PySem.F.type_list_insert mt_insert (pv 6) (pa_cons (pe_op op_mod (pe_op op_fdiv (pv 3) pe_int) (pe_op op_add (pe_callB call_len_seq (by rfl) B.len PySem.boot_len (pa_cons (pv 6) pa_nil)) pe_int)) (pa_cons (pe_ix ix_list (pv 6) (pv 7) (fun _ _ => rfl)) pa_nil))))
      (pss_one (ps_ret (pe_join pe_str (pv 6))))) pss_nil)
      (pss_cons (ps_if (pt_cmpR op_eq (pv 5) pe_int (nomark _)) (pss_cons (ps_expr (pe_bm PySem.F.plainAttrs_list PySem.F.slot_list_pop PySem.F.type_list_pop mt_popAt (pv 6) (pa_cons (pv 7) pa_nil)))
      (pss_one (ps_ret (pe_join pe_str (pv 6))))) pss_nil)
      (pss_cons (ps_if (pt_cmpR op_eq (pv 5) pe_int (nomark _)) (pss_one (ps_ret (pe_op op_add_str (pe_op op_add_str (pv 4) (pe_ix ix_str pe_str (pe_op op_mod (pv 3) pe_int) (fun _ _ => rfl))) (pe_slice sl_str (pv 0) (po_some (pv 2)) po_none)))) pss_nil)
      (pss_one (ps_ret (pe_ix ix_list (pe_lst (pa_cons pe_str (pa_cons pe_str (pa_cons pe_str (pa_cons pe_str (pa_cons pe_str (pa_cons pe_str (pa_cons pe_str pa_nil)))))))) (pe_op op_mod (pv 3) pe_int) (fun _ _ => rfl))))))))))))))))))), ?_⟩
    obtain ⟨w1, w2, w3, w4⟩ := words_facts t
    refine ⟨_, rfl, _, _, rfl, rfl, ⟨by decide, by decide⟩, _, rfl, _, rfl, by omega, _, _, rfl, rfl, _, _, rfl, rfl, (by show (0 : Int) < (t.length : Int) + 1; omega), ?_⟩
    refine ⟨_, rfl, _, _, rfl, rfl, ⟨by decide, by decide⟩, _, rfl, _, rfl, by omega, _, _, rfl, rfl, _, _, rfl, rfl, divA (b := 12) (by omega) (by show ((t.length : Int) + 1).natAbs < 4096; omega), ?_⟩
    refine ⟨_, rfl, _, rfl, _, rfl, t, rfl, by omega, ?_⟩
    refine ⟨_, rfl, _, _, rfl, rfl, (by show (0 : Int) < _; decide), ?_⟩
    refine ⟨_, rfl, ⟨_, rfl⟩, _, _, rfl, rfl, by rw [blank_len]; rfl, by omega, fun wa na => ?_⟩
    obtain ⟨ws, ews⟩ : ∃ ws, ws = Txt.split t " " := ⟨_, rfl⟩
    rw [← ews] at w1 w2 w3 w4 ⊢
    have wpos : 0 < ws.length := List.length_pos_iff.mpr w2
    have wlen : (ws.map V.str).length = ws.length := List.length_map _
    have S1 := same_new (o := .lst (ws.map V.str)) na
    refine ⟨_, rfl, _, rfl, wa, _, rfl, .inl (SqL.of upd_same), _, _, rfl, rfl, (by show (0 : Int) < ((ws.map V.str).length : Int); omega), ?_⟩
    refine ⟨(by show 10 ≤ sizeLine; decide), fun s1 n1 => ?_⟩
    have S2 := same_new (o := .lst [V.str "1000000,0", V.str "1000001,0", V.str "0,-1000000", V.str "0,-1000001", V.str "00,1", V.str "1,01", V.str "-0,1", V.str "1_0,2", V.str "+1,2", V.str "1,2,3"]) n1
    refine ⟨_, rfl, (by show 4 ≤ sizeLine; decide), fun s2 n2 => ?_⟩
    have S3 := same_new (o := .lst [V.str "", V.str "5", V.str "5,", V.str "88,-99"]) n2
    refine ⟨s1, s2, _, _, rfl, rfl, S3 _ _ upd_same, upd_same, (by show 14 ≤ sizeLine; decide), fun s3 n3 => ?_⟩
    have S4 := same_new (o := .lst (someL.map V.str)) n3
    have hs3 : ∀ {H' : Hp} {o : HO}, upd H' s3 o s3 = some o := upd_same
    have S24 := S2.trans (S3.trans S4)
    have S14 := S1.trans S24
    have hwa := S24 _ _ (upd_same (H := H) (a := wa) (o := .lst (ws.map V.str)))
    have hs := upd_same (H := upd (upd (upd H wa (.lst (ws.map V.str))) s1 (.lst [V.str "1000000,0", V.str "1000001,0", V.str "0,-1000000", V.str "0,-1000001", V.str "00,1", V.str "1,01", V.str "-0,1", V.str "1_0,2", V.str "+1,2", V.str "1,2,3"])) s2 (.lst [V.str "", V.str "5", V.str "5,", V.str "88,-99"])) (a := s3) (o := .lst (someL.map V.str))
    have cl : ∀ a b, (cutS t a b).length ≤ 500 := fun a b => Nat.le_trans (cutS_length t a b) (by omega)
    have cz : ∀ a b, (cutS t a b).length ≤ t.length := fun a b => cutS_length t a b
    have one : ∀ d : Nat, (⟨#[d]⟩ : Str).length = 1 := fun d => rfl
    -- what a joined list comes to
    have jn : ∀ ys : List Str, (ys.map (·.length)).sum ≤ 900 → ys.length ≤ 900 → (ys.map (·.length)).sum + ys.length * Str.length " " ≤ 16777216 ∧ (Txt.join " " ys).length ≤ 3000 := fun ys h1 h2 => by
      have := join_bd ys
      rw [blank_len]
      omega
    refine ⟨_, rfl, rfl, _, rfl, ite2 (fun _ => ?_) (fun _ => ?_)⟩
    · refine ⟨_, rfl, _, rfl, _, rfl, fun d => ?_⟩
      refine ⟨_, _, rfl, rfl, (by rw [one]; have := cz none (some (c / 9 % ((t.length : Int) + 1))); omega), ?_⟩
      refine ⟨_, rfl, _, rfl, _, rfl, t, rfl, by omega, ?_⟩
      refine ⟨_, _, rfl, rfl, ?_, q _ _ S14 (len3 _ _ _ (cl _ _) (by rw [one]; omega) (cl _ _))⟩
      rw [app_len, one]
      have h1 := cz none (some (c / 9 % ((t.length : Int) + 1)))
      have h2 := cz (some (c / 9 % ((t.length : Int) + 1))) none
      omega
    refine ⟨_, rfl, rfl, _, rfl, ite2 (fun _ => ?_) (fun _ => ?_)⟩
    · refine ⟨_, rfl, _, rfl, _, rfl, fun d => ?_⟩
      refine ⟨_, _, rfl, rfl, (by rw [one]; have := cz none (some (c / 9 % ((t.length : Int) + 1))); omega), ?_⟩
      refine ⟨_, rfl, _, rfl, _, _, rfl, rfl, _, rfl, t, rfl, by omega, ?_⟩
      refine ⟨_, _, rfl, rfl, ?_, q _ _ S14 (len3 _ _ _ (cl _ _) (by rw [one]; omega) (cl _ _))⟩
      rw [app_len, one]
      have h1 := cz none (some (c / 9 % ((t.length : Int) + 1)))
      have h2 := cz (some (c / 9 % ((t.length : Int) + 1) + 1)) none
      omega
    have nl : Str.length "\n" = 1 := by decide +kernel
    refine ⟨_, rfl, rfl, _, rfl, ite2 (fun _ => ?_) (fun _ => ?_)⟩
    · refine ⟨_, rfl, _, _, rfl, rfl, (by rw [nl]; have := cz none (some (c / 9 % ((t.length : Int) + 1))); omega), ?_⟩
      refine ⟨_, rfl, _, rfl, _, rfl, _, _, rfl, rfl, (by show (0 : Int) < _; decide), _, _, rfl, rfl, _, rfl, t, rfl, by omega, ?_⟩
      refine ⟨_, _, rfl, rfl, ?_, q _ _ S14 (len3 _ _ _ (cl _ _) (by rw [nl]; omega) (cl _ _))⟩
      rw [app_len, nl]
      have h1 := cz none (some (c / 9 % ((t.length : Int) + 1)))
      have h2 := cz (some (c / 9 % ((t.length : Int) + 1) + (c / 9).fdiv ((t.length : Int) + 1) % 2)) none
      omega
    refine ⟨_, rfl, rfl, _, rfl, ite2 (fun _ => ?_) (fun _ => ?_)⟩
    · refine ⟨_, rfl, _, rfl, _, rfl, _, _, rfl, rfl, _, rfl, t, rfl, by omega, ?_⟩
      have h1 := cz none (some (c / 9 % ((t.length : Int) + 1)))
      have h2 := cz (some (c / 9 % ((t.length : Int) + 1) + 1)) none
      refine ⟨_, _, rfl, rfl, by omega, q _ _ S14 ?_⟩
      rw [app_len]
      omega
    obtain ⟨r, er⟩ : ∃ r, r = (c / 9).fdiv ((t.length : Int) + 1) := ⟨_, rfl⟩
    obtain ⟨zs, mzs, azs⟩ := pickS someL (by decide) ((c / 9).fdiv ((t.length : Int) + 1))
    have lzs := someL_len zs mzs
    obtain ⟨zw, mzw, azw⟩ := pickS ws wpos ((c / 9).fdiv ((t.length : Int) + 1))
    have lzw := w4 zw mzw
    -- a word put in
    have ins : ∀ (z : Str) (i : Int), z.length ≤ 400 → (((ws.take i.toNat ++ [z] ++ ws.drop i.toNat).map (·.length)).sum ≤ 900 ∧ (ws.take i.toNat ++ [z] ++ ws.drop i.toNat).length ≤ 900) ∧ (ws.map V.str).take i.toNat ++ [V.str z] ++ (ws.map V.str).drop i.toNat = (ws.take i.toNat ++ [z] ++ ws.drop i.toNat).map V.str := fun z i hz => by
      obtain ⟨h1, h2⟩ := sum_ins ws i.toNat z
      refine ⟨by rw [h1, h2]; omega, ?_⟩
      rw [List.map_append, List.map_append, List.map_take, List.map_drop]
      rfl
    have pm : ∀ x : Int, 0 ≤ x % (((ws.map V.str).length : Int) + 1) ∧ x % (((ws.map V.str).length : Int) + 1) < 2 ^ 63 := fun x => by
      have h1 := Int.emod_nonneg x (b := ((ws.map V.str).length : Int) + 1) (by omega)
      have h2 := Int.emod_lt_of_pos x (b := ((ws.map V.str).length : Int) + 1) (by omega)
      constructor
      · exact h1
      · omega
    refine ⟨_, rfl, rfl, _, rfl, ite2 (fun _ => ?_) (fun _ => ?_)⟩
    · refine ⟨_, rfl, .inl ⟨rfl, _, SqL.of hwa⟩, _, rfl, _, _, rfl, rfl, ⟨by decide, by decide⟩, _, rfl, wa, _, rfl, .inl (SqL.of hwa), _, _, rfl, rfl, _, _, rfl, rfl, (by show (0 : Int) < ((ws.map V.str).length : Int) + 1; omega), ?_⟩
      refine ⟨_, rfl, _, rfl, _, _, rfl, rfl, (by show (0 : Int) < _; decide), s3, _, _, _, rfl, rfl, SqL.of hs, azs, ?_⟩
      obtain ⟨⟨i1, i2⟩, i3⟩ := ins zs ((c / 9).fdiv ((t.length : Int) + 1) / 14 % (((ws.map V.str).length : Int) + 1)) (by omega)
      obtain ⟨p1, p2⟩ := pm ((c / 9).fdiv ((t.length : Int) + 1) / 14)
      refine ⟨wa, _, _, _, rfl, rfl, hwa, by omega, p1, p2, ?_⟩
      rw [i3]
      obtain ⟨j1, j2⟩ := jn _ i1 i2
      exact ⟨⟨_, rfl⟩, _, rfl, _, wa, _, rfl, rfl, .inl (SqL.of upd_same), j1, q _ _ (same_upd S14 na) j2⟩
    refine ⟨_, rfl, rfl, _, rfl, ite2 (fun _ => ?_) (fun _ => ?_)⟩
    · refine ⟨_, rfl, .inl ⟨rfl, _, SqL.of hwa⟩, _, rfl, _, _, rfl, rfl, ⟨by decide, by decide⟩, _, rfl, wa, _, rfl, .inl (SqL.of hwa), _, _, rfl, rfl, _, _, rfl, rfl, (by show (0 : Int) < ((ws.map V.str).length : Int) + 1; omega), ?_⟩
      refine ⟨_, rfl, _, rfl, wa, _, _, _, rfl, rfl, SqL.of hwa, by rw [wlen]; exact azw, ?_⟩
      obtain ⟨⟨i1, i2⟩, i3⟩ := ins zw ((c / 9).fdiv ((t.length : Int) + 1) / 20 % (((ws.map V.str).length : Int) + 1)) (by omega)
      obtain ⟨p1, p2⟩ := pm ((c / 9).fdiv ((t.length : Int) + 1) / 20)
      refine ⟨wa, _, _, _, rfl, rfl, hwa, by omega, p1, p2, ?_⟩
      rw [i3]
      obtain ⟨j1, j2⟩ := jn _ i1 i2
      exact ⟨⟨_, rfl⟩, _, rfl, _, wa, _, rfl, rfl, .inl (SqL.of upd_same), j1, q _ _ (same_upd S14 na) j2⟩
    refine ⟨_, rfl, rfl, _, rfl, ite2 (fun _ => ?_) (fun _ => ?_)⟩
    · have h1 := Int.emod_nonneg ((c / 9).fdiv ((t.length : Int) + 1)) (b := ((ws.map V.str).length : Int)) (by omega)
      have h2 := Int.emod_lt_of_pos ((c / 9).fdiv ((t.length : Int) + 1)) (b := ((ws.map V.str).length : Int)) (by omega)
      have hk : ((c / 9).fdiv ((t.length : Int) + 1) % ((ws.map V.str).length : Int)).toNat < ws.length := by omega
      refine ⟨_, rfl, .inl ⟨rfl, _, SqL.of hwa⟩, _, rfl, wa, _, _, _, _, rfl, rfl, hwa, by omega, by omega, seqIndex_of h1 h2, by rw [List.getElem?_map, List.getElem?_eq_getElem hk]; rfl, ?_⟩
      rw [map_erase]
      have e1 := sum_erase ws ((c / 9).fdiv ((t.length : Int) + 1) % ((ws.map V.str).length : Int)).toNat
      have e2 : (ws.eraseIdx ((c / 9).fdiv ((t.length : Int) + 1) % ((ws.map V.str).length : Int)).toNat).length ≤ ws.length := List.length_eraseIdx_le ..
      obtain ⟨j1, j2⟩ := jn (ws.eraseIdx ((c / 9).fdiv ((t.length : Int) + 1) % ((ws.map V.str).length : Int)).toNat) (by omega) (by omega)
      exact ⟨⟨_, rfl⟩, _, rfl, _, wa, _, rfl, rfl, .inl (SqL.of upd_same), j1, q _ _ (same_upd S14 na) j2⟩
    refine ⟨_, rfl, rfl, _, rfl, ite2 (fun _ => ?_) (fun _ => ?_)⟩
    · refine ⟨_, rfl, _, rfl, _, _, rfl, rfl, (by show (0 : Int) < _; decide), _, _, _, rfl, rfl, by decide +kernel, Classical.choose_spec (pick5 _ ((c / 9).fdiv ((t.length : Int) + 1)) (by decide +kernel)), ?_⟩
      refine ⟨_, _, rfl, rfl, (by rw [one]; have := cz none (some (c / 9 % ((t.length : Int) + 1))); omega), ?_⟩
      refine ⟨_, rfl, _, rfl, _, rfl, t, rfl, by omega, ?_⟩
      refine ⟨_, _, rfl, rfl, ?_, q _ _ S14 (len3 _ _ _ (cl _ _) (by rw [one]; omega) (cl _ _))⟩
      rw [app_len, one]
      have h1 := cz none (some (c / 9 % ((t.length : Int) + 1)))
      have h2 := cz (some (c / 9 % ((t.length : Int) + 1))) none
      omega
    · obtain ⟨zl, mzl, azl⟩ := pickS lastL (by decide) ((c / 9).fdiv ((t.length : Int) + 1))
      have lzl := lastL_len zl mzl
      refine ⟨(by show 7 ≤ sizeLine; decide), fun s4 n4 => ?_⟩
      refine ⟨_, rfl, _, _, rfl, rfl, (by show (0 : Int) < _; decide), s4, _, _, _, rfl, rfl, SqL.of upd_same, azl, ?_⟩
      exact q _ _ (S14.trans (same_new n4)) (by omega)
/-! _law_number -/
noncomputable def spLawNum : Sp := fun vs H Q _ => ∃ w : Str, vs = [.str w] ∧ w.length ≤ 3000 ∧ Q (numV w) H
theorem sc__law_number : FnScope ["word", "figures", "sign"] ["word"] (defScope s__law_number) := ⟨rfl, rfl, rfl, by decide +kernel, rfl, by decide +kernel, by decide +kernel⟩
theorem ok__law_number (D : Df K mg "_law_number" s__law_number ["word"]) (B : Bl mg) : FnOk P w K mg base CX0 1 D.f D.fd ["word"] spLawNum := by
  refine D.F.ok sc__law_number (fun vs H Q E h => ?_) (fun cdv A outer s H vs Q E hr h => ?_)
  · obtain ⟨w, rfl, _⟩ := h
    rfl
  · obtain ⟨w, rfl, hw, q⟩ := h
    have nd := sc__law_number.nd
    have hsz : sizeLine = 16777216 := sizeLine_eq
    have no : ¬ GoodR (TL.tl w) → Q .non H := fun h => by
      rw [numV_no h] at q
      exact q
    refine ⟨_, pss_cons (pset 1 nd (pv 0))
      (pss_cons (ps_if (pt_cmpR op_eq (pe_slice sl_str (pv 0) po_none (po_some pe_int)) pe_str (nomark _)) (pss_one (pset 1 nd (pe_slice sl_str (pv 0) (po_some pe_int) po_none))) pss_nil)
      (pjoin (u := fun D' σ H' => ∃ f : Str, σ = [some (.str w), some (.str f), none] ∧ H' = H ∧ TL.tl f = figL (TL.tl w) ∧ D'.rt = Q)
      (pss_cons (ps_if (PW.pt (pw_or (pt_cmpR op_lt (pe_callB call_len_str (by rfl) B.len PySem.boot_len (pa_cons (pv 1) pa_nil)) pe_int (nomark _)) (pw_or1 (pt_cmpR op_gt (pe_callB call_len_str (by rfl) B.len PySem.boot_len (pa_cons (pv 1) pa_nil)) pe_int (nomark _))))) (pss_one (ps_ret pe_non)) pss_nil)
      (pss_cons (ps_for PassesOwn.never rfl (pi_str (pv 1)) (pgn 2 nd) (pss_one (ps_if (pt_cmpR op_notIn_sign (pv 2) pe_str (by rfl)) (pss_one (ps_ret pe_non)) pss_nil)))
      (pss_cons (ps_if (PW.pt (pw_or (PW.pt (pw_and (pt_cmpR op_eq (pe_ix ix_str (pv 1) pe_int (fun _ _ => rfl)) pe_str (nomark _)) (pw_and1 (pt_cmpR op_ne (pv 0) pe_str (nomark _))))) (pw_or1 (pt_cmpR op_gt (pe_callB call_abs (by rfl) B.abs boot_abs (pa_cons (pe_callTy call_int_str (by rfl) B.int boot_int (pa_cons (pv 1) pa_nil)) pa_nil)) (pe_op op_pow pe_int pe_int) (nomark _))))) (pss_one (ps_ret pe_non)) pss_nil)
      (pss_one (ps_ret (pe_callTy call_int_str (by rfl) B.int boot_int (pa_cons (pv 0) pa_nil))))))) ?_)), ?_⟩
    · rintro D' σ H' ⟨f, rfl, rfl, ef, eD⟩
      have fl := TL.len_tl f
      rw [ef] at fl
      have wl := TL.len_tl w
      have fw := figL_len (TL.tl w)
      have no' : ¬ GoodR (TL.tl w) → D'.rt .non H' := fun h => by
        rw [eD]
        exact no h
      by_cases h1 : f.length < 1
      · exact ⟨_, rfl, _, rfl, by omega, _, _, rfl, rfl, _, rfl, ifT (decide_eq_true (by omega)) (no' fun g => by have := g.1.one; omega)⟩
      refine ⟨_, rfl, _, rfl, by omega, _, _, rfl, rfl, _, rfl, ifF (decide_eq_false (by omega)) ?_⟩
      by_cases h7 : 7 < f.length
      · exact ⟨_, rfl, _, rfl, by omega, _, _, rfl, rfl, _, rfl, ifT (decide_eq_true (by omega)) (no' fun g => by have := g.1.most; omega)⟩
      refine ⟨_, rfl, _, rfl, by omega, _, _, rfl, rfl, _, rfl, ifF (decide_eq_false (by omega)) ?_⟩
      refine ⟨_, rfl, f, rfl, for_it walk_str (fun i σ H2 => H2 = H' ∧ (∀ x ∈ (TL.tl f).take i, 48 ≤ x ∧ x ≤ 57) ∧ ∃ r, σ = [some (.str w), some (.str f), r]) ⟨rfl, (fun x hx => by cases hx), none, rfl⟩ (fun _ _ _ _ _ => trivial) ?_ ?_⟩
      · rintro i x σ H1 H2 hi ⟨rfl, dig, r, rfl⟩ ⟨rfl, d, hd, rfl⟩
        have hd2 : (TL.tl f)[i]? = some d := by
          show f.cps.toList[i]? = _
          rw [Array.getElem?_toList]
          exact hd
        by_cases hq : 48 ≤ d ∧ d ≤ 57
        · refine ⟨_, rfl, d, _, rfl, rfl, _, rfl, ifF ?_ ⟨rfl, fun z hz => ?_, _, rfl⟩⟩
          · rw [decide_eq_true (fig_mem.mpr hq)]
            rfl
          · rw [List.take_add_one, hd2] at hz
            rcases List.mem_append.mp hz with hz | hz
            · exact dig z hz
            · have e : z = d := by simpa using hz
              rw [e]
              exact hq
        · refine ⟨_, rfl, d, _, rfl, rfl, _, rfl, ifT ?_ (no' fun g => hq (g.1.dig d ?_))⟩
          · rw [decide_eq_false (fun z => hq (fig_mem.mp z))]
            rfl
          · rw [← ef]
            exact List.mem_of_getElem? hd2
      · rintro σ H1 ⟨rfl, dig, r, rfl⟩
        have hsz2 : f.cps.size = (TL.tl f).length := (Array.length_toList).symm
        rw [hsz2, List.take_length] at dig
        obtain ⟨c, rr, ec⟩ : ∃ c rr, TL.tl f = c :: rr := by
          cases e : TL.tl f with
          | nil =>
            rw [← ef, e] at fl
            exact absurd fl (by simp; omega)
          | cons c rr => exact ⟨c, rr, rfl⟩
        have h0 : atI (TL.tl f) 0 = some c := atI_nat (j := 0) (by rw [ec]; rfl)
        have hint := intText_digits (x := f) dig (fun z => by rw [show TL.tl f = [] from z] at ec; cases ec) (by omega)
        have av := abs_val (TL.tl w)
        rw [← ef] at av
        -- the great ones, and the others
        have big : (1000000 : Int) < (if ((NumText.digitsVal (TL.tl f) : Nat) : Int) < 0 then -((NumText.digitsVal (TL.tl f) : Nat) : Int) else ((NumText.digitsVal (TL.tl f) : Nat) : Int)) → ¬ GoodR (TL.tl w) := fun h g => by
          obtain ⟨_, g1, g2⟩ := g
          split at h <;> omega
        have okR : (c = 48 → TL.tl w = [48]) → ¬ (1000000 : Int) < (if ((NumText.digitsVal (TL.tl f) : Nat) : Int) < 0 then -((NumText.digitsVal (TL.tl f) : Nat) : Int) else ((NumText.digitsVal (TL.tl f) : Nat) : Int)) → GoodR (TL.tl w) := fun hz h => by
          refine ⟨⟨by omega, by omega, fun hh => hz (by rw [← ef, ec] at hh; simpa using hh), by rw [← ef]; exact dig⟩, ?_⟩
          split at h <;> omega
        have fin : GoodR (TL.tl w) → PySem.intText? w = some (valL (TL.tl w)) ∧ w.length ≤ 640 ∧ D'.rt (.int (valL (TL.tl w))) H1 := fun g => by
          obtain ⟨gi, gl⟩ := good_int g.1
          refine ⟨gi, by omega, ?_⟩
          rw [eD, ← numV_yes g]
          exact q
        refine ⟨_, rfl, f, 0, c, rfl, rfl, by omega, h0, rfl, _, rfl, ?_⟩
        by_cases hc : c = 48
        · refine ifT (by rw [str_dec, zero_tl]; exact decide_eq_true (by rw [hc])) ?_
          by_cases ew : TL.tl w = [48]
          · refine ⟨_, rfl, rfl, _, rfl, ifF (by rw [str_dec, ew, zero_tl]; rfl) ?_⟩
            refine ⟨_, rfl, f, _, rfl, hint, by omega, _, rfl, _, _, rfl, rfl, cpow6, _, _, rfl, rfl, _, rfl, ite2 (fun hb => no' (big (of_decide_eq_true hb))) (fun hb => ?_)⟩
            obtain ⟨x1, x2, x3⟩ := fin (okR (fun _ => ew) fun z => hb (decide_eq_true z))
            exact ⟨_, rfl, w, _, rfl, x1, x2, x3⟩
          · exact ⟨_, rfl, rfl, _, rfl, ifT (by rw [str_dec, zero_tl, decide_eq_false ew]; rfl) (no' fun g => ew (g.1.nought (by rw [← ef, ec, hc]; rfl)))⟩
        · refine ifF (by rw [str_dec, zero_tl]; exact decide_eq_false (fun z => hc (by have z2 : [c] = [48] := z; simpa using z2))) ?_
          refine ⟨_, rfl, f, _, rfl, hint, by omega, _, rfl, _, _, rfl, rfl, cpow6, _, _, rfl, rfl, _, rfl, ite2 (fun hb => no' (big (of_decide_eq_true hb))) (fun hb => ?_)⟩
          obtain ⟨x1, x2, x3⟩ := fin (okR (fun e => absurd e hc) fun z => hb (decide_eq_true z))
          exact ⟨_, rfl, w, _, rfl, x1, x2, x3⟩
    · refine ⟨_, rfl, ?_⟩
      refine ⟨_, rfl, _, rfl, w, rfl, by omega, rfl, _, rfl, ?_⟩
      rw [str_dec, cut1, minus_tl]
      by_cases hm : (TL.tl w).take 1 = [45]
      · refine ifT (decide_eq_true hm) ?_
        refine ⟨_, rfl, _, rfl, w, rfl, by omega, ?_⟩
        exact ⟨_, rfl, rfl, by rw [cutR]; exact (if_pos hm).symm, rfl⟩
      · exact ifF (decide_eq_false hm) ⟨_, rfl, rfl, (if_neg hm).symm, rfl⟩
/-! _law_due -/
theorem no_word {t : Str} {x : Str} (hx : x ∈ Txt.split t " ") (h : ∀ p, GoodP x p → ¬ Ok p) : ∀ ps, ¬ ReadOk t ps := fun ps ⟨ag, nb⟩ => by
  obtain ⟨p, mp, gp⟩ := ag.mem hx
  exact nb (.inr (.inr (.inl ⟨p, mp, h p gp⟩)))
def spDue (K : PySem.W.Frag) : Sp := fun vs H Q _ => ∃ t : Str, vs = [.str t] ∧ t.length ≤ 3000 ∧ (∀ ps, ReadOk t ps → ∀ H' p ks, Same H H' → PtsL H' p ks → ptsOf ks = ps → Q (.ref p) H') ∧ ((∀ ps, ¬ ReadOk t ps) → ∀ H', Same H H' → Q .non H')
theorem sc__law_due : FnScope ["text", "points", "word", "numbers", "part"] ["text"] (defScope s__law_due) := ⟨rfl, rfl, rfl, by decide +kernel, rfl, by decide +kernel, by decide +kernel⟩
theorem ok__law_due (D : Df K mg "_law_due" s__law_due ["text"]) (B : Bl mg) (C__law_number : Fn P w K mg base CX0 1 "_law_number" ["word"] spLawNum) : FnOk P w K mg base CX0 2 D.f D.fd ["text"] (spDue K) := by
  refine D.F.ok sc__law_due (fun vs H Q E h => ?_) (fun cdv A outer s H vs Q E hr h => ?_)
  · obtain ⟨t, rfl, _⟩ := h
    rfl
  · obtain ⟨t, rfl, hl, q, bad⟩ := h
    have nd := sc__law_due.nd
    have hsz : sizeLine = 16777216 := sizeLine_eq
    obtain ⟨ws, ews⟩ : ∃ ws, ws = Txt.split t " " := ⟨_, rfl⟩
    obtain ⟨_, _, wn, wl⟩ := words_facts t
    rw [← ews] at wn wl
    refine ⟨_, pss_cons (pset 1 nd (pe_lst pa_nil))
      (pss_cons (ps_for PassesOwn.never rfl (pi_list (pe_split (pv 0) pe_str)) (pgn 2 nd) (pss_cons (ps_setLc (i := 3) (own := [("part", 4)]) (g := gName 4) (tt := tYes) rfl nd rfl rfl (sw_true rfl rfl rfl (by decide +kernel)) (pi_list (pe_split (pv 2) pe_str)) (blkOk_by (own := [("part", 4)]) (N := ["text", "points", "word", "numbers", "part"]) (sc := defScope s__law_due) (by decide +kernel)) (fun _ _ _ _ _ => pg_name (i := 4) nd rfl (Or.inl rfl)) (fun _ _ _ _ _ => pts_nil) (fun _ _ _ _ _ => (pcall C__law_number hr (pa_cons (pv 4) pa_nil))))
      (pss_cons (ps_if (PW.pt (pw_or (pt_cmpR op_ne (pe_callB call_len_seq (by rfl) B.len PySem.boot_len (pa_cons (pv 3) pa_nil)) pe_int (nomark _)) (pw_or (pt_cmpR op_isN (pe_ix ix_list (pv 3) pe_int (fun _ _ => rfl)) pe_non (nomark _)) (pw_or1 (pt_cmpR op_isN (pe_ix ix_list (pv 3) pe_int (fun _ _ => rfl)) pe_non (nomark _)))))) (pss_one (ps_ret pe_non)) pss_nil)
      (pss_one (ps_expr (pe_bm PySem.F.plainAttrs_list PySem.F.slot_list_append PySem.F.type_list_append mt_append (pv 1) (pa_cons (pe_tup (pa_cons (pe_ix ix_list (pv 3) pe_int (fun _ _ => rfl)) (pa_cons (pe_ix ix_list (pv 3) pe_int (fun _ _ => rfl)) pa_nil))) pa_nil)))))))
      (pss_cons (ps_if (PW.pt (pw_or (pt_cmpR op_lt (pe_callB call_len_seq (by rfl) B.len PySem.boot_len (pa_cons (pv 1) pa_nil)) pe_int (nomark _)) (pw_or (pt_cmpR op_gt (pe_callB call_len_seq (by rfl) B.len PySem.boot_len (pa_cons (pv 1) pa_nil)) pe_int (nomark _)) (pw_or1 (pt_cmpR op_lt (pe_lenSetT rfl hr.units (by rfl) B.len (by rfl) B.set (pv 1)) (pe_callB call_len_seq (by rfl) B.len PySem.boot_len (pa_cons (pv 1) pa_nil)) (nomark _)))))) (pss_one (ps_ret pe_non)) pss_nil)
      (pss_one (ps_ret (pv 1))))), ?_⟩
    refine ⟨(by show 0 ≤ sizeLine; decide), fun P0 nP => ?_⟩
    have S0 := same_new (o := .lst []) nP
    have L0 : PtsL (upd H P0 (.lst [])) P0 [] := ⟨upd_same, fun k hk => by cases hk⟩
    generalize upd H P0 (.lst []) = H0 at S0 L0 ⊢
    refine ⟨_, rfl, ⟨_, rfl⟩, _, _, rfl, rfl, by rw [blank_len]; rfl, by omega, fun p np => ?_⟩
    rw [← ews]
    have S1 := S0.trans (same_new (o := .lst (ws.map V.str)) np)
    have L1 := L0.same (same_new (o := .lst (ws.map V.str)) np)
    have hp : upd H0 p (.lst (ws.map V.str)) p = some (.lst (ws.map V.str)) := upd_same
    have np0 : p ≠ P0 := fun z => by
      rw [z] at np
      rw [L0.lst] at np
      cases np
    generalize upd H0 p (.lst (ws.map V.str)) = H1 at S1 L1 hp ⊢
    refine ⟨p, rfl, ⟨_, SqL.of hp⟩, ?_⟩
    refine for_list (K := K) (a := p) (xs := ws.map V.str) (fun i σ H' => ∃ (ks : List (Addr × P2)) (x y z : Option V), σ = [some (.str t), some (.ref P0), x, y, z] ∧ Same H H' ∧ H' p = some (.lst (ws.map V.str)) ∧ PtsL H' P0 ks ∧ AllG (ws.take i) (ptsOf ks) ∧ ∀ k ∈ ks, Ok k.2)
      ⟨[], none, none, none, rfl, S1, hp, L1, trivial, fun k hk => by cases hk⟩ (fun i σ H' _ ⟨_, _, _, _, _, _, h, _⟩ => SqL.of h) ?_ ?_
    · rintro i v σ H2 hi ⟨ks, x, y, z, rfl, S2, hp2, LM, em, oks⟩
      obtain ⟨w', hw, rfl⟩ := at_item hi
      have mw := List.mem_of_getElem? hw
      have hil := (List.getElem?_eq_some_iff.mp hw).1
      have wl' := wl w' mw
      have mw' : w' ∈ Txt.split t " " := by rw [← ews]; exact mw
      have kl : ks.length = i := by
        have e1 : (ptsOf ks).length = ks.length := List.length_map _
        rw [em.len, List.length_take] at e1
        omega
      obtain ⟨pl, pm⟩ := parts_facts w'
      obtain ⟨xs, exs⟩ : ∃ xs, xs = Txt.split w' "," := ⟨_, rfl⟩
      refine ⟨_, rfl, ⟨_, rfl⟩, _, _, rfl, rfl, by rw [comma_len]; rfl, by omega, fun s0 n0 => ?_⟩
      rw [← exs] at pl pm ⊢
      have T1 := same_new (o := .lst (xs.map V.str)) n0
      have hs0 : upd H2 s0 (.lst (xs.map V.str)) s0 = some (.lst (xs.map V.str)) := upd_same
      generalize upd H2 s0 (.lst (xs.map V.str)) = H3 at T1 hs0 ⊢
      refine ⟨s0, rfl, ⟨_, SqL.of hs0⟩, fun N nN => ?_⟩
      refine lc_list (K := K) (a := s0) (xs := xs.map V.str) (fun j H' => Same H3 H' ∧ H' N = some (.lst ((xs.take j).map numV))) ⟨same_new nN, upd_same⟩ (fun j H' _ ⟨S, _⟩ => SqL.of (S _ _ hs0)) ?_ ?_
      · rintro j v H4 hj ⟨T2, hN⟩
        obtain ⟨b, hb, rfl⟩ := at_item hj
        have mb := List.mem_of_getElem? hb
        have hjl := (List.getElem?_eq_some_iff.mp hb).1
        have lb := pm b mb
        refine ⟨rfl, tyes (ifT rfl ?_)⟩
        refine ⟨_, rfl, b, rfl, by omega, ?_⟩
        refine ⟨_, hN, ?_, same_upd T2 nN, ?_⟩
        · rw [List.length_map, List.length_take]
          omega
        · rw [upd_same, List.take_add_one, hb, List.map_append]
          rfl
      · rintro H4 ⟨T2, hN⟩
        have eN : xs.take (xs.map V.str).length = xs := List.take_of_length_le (by rw [List.length_map]; exact Nat.le_refl _)
        rw [eN] at hN
        have T12 := T1.trans T2
        have S4 := S2.trans T12
        by_cases h2 : xs.length = 2
        · obtain ⟨a, b, es⟩ : ∃ a b, xs = [a, b] := by
            match xs, h2 with
            | [a, b], _ => exact ⟨a, b, rfl⟩
          rw [es] at hN
          have hN : H4 N = some (.lst [numV a, numV b]) := hN
          have esp : Txt.split w' "," = [a, b] := by rw [← exs, es]
          refine ⟨_, rfl, N, _, rfl, .inl (SqL.of hN), rfl, _, rfl, ifF (by rfl) ?_⟩
          by_cases ga : GoodR (TL.tl a)
          · refine ⟨_, rfl, _, _, _, _, rfl, rfl, SqL.of hN, at0, rfl, _, rfl, ifF (decide_eq_false (fun z => by rw [numV_yes ga] at z; cases z)) ?_⟩
            by_cases gb : GoodR (TL.tl b)
            · refine ⟨_, rfl, _, _, _, _, rfl, rfl, SqL.of hN, at1, rfl, _, rfl, ifF (decide_eq_false (fun z => by rw [numV_yes gb] at z; cases z)) ?_⟩
              have LM4 := LM.same T12
              refine ⟨_, rfl, .inl ⟨rfl, _, SqL.of LM4.lst⟩, _, rfl, _, _, _, _, rfl, rfl, SqL.of hN, at0, _, rfl, _, _, _, _, rfl, rfl, SqL.of hN, at1, (by show 2 ≤ sizeLine; decide), fun u nu => ?_⟩
              rw [numV_yes ga, numV_yes gb]
              have T3 := same_new (o := .tup [V.int (valL (TL.tl a)), V.int (valL (TL.tl b))]) nu
              have LM5 := LM4.same T3
              refine ⟨P0, _, _, rfl, rfl, LM5.lst, ?_, ?_⟩
              · rw [List.length_map]
                omega
              refine ⟨ks ++ [(u, (valL (TL.tl a), valL (TL.tl b)))], _, _, _, rfl, same_upd (S4.trans T3) nP, ?_, LM5.more (q := (valL (TL.tl a), valL (TL.tl b))) upd_same, ?_, fun k hk => ?_⟩
              · have hp5 := T3 _ _ (T12 _ _ hp2)
                rw [upd_ne np0]
                exact hp5
              · have e1 : ptsOf (ks ++ [(u, (valL (TL.tl a), valL (TL.tl b)))]) = ptsOf ks ++ [(valL (TL.tl a), valL (TL.tl b))] := by
                  unfold ptsOf
                  rw [List.map_append]
                  rfl
                rw [e1, List.take_add_one, hw]
                exact em.more ⟨a, b, esp, ga.1, gb.1, rfl⟩
              · rcases List.mem_append.mp hk with hk | hk
                · exact oks k hk
                · have e : k = (u, (valL (TL.tl a), valL (TL.tl b))) := by simpa using hk
                  rw [e]
                  exact ⟨ga.2.1, ga.2.2, gb.2.1, gb.2.2⟩
            · refine ⟨_, rfl, _, _, _, _, rfl, rfl, SqL.of hN, at1, rfl, _, rfl, ifT (decide_eq_true (numV_no gb)) (bad (no_word mw' fun p' gp o => ?_) _ S4)⟩
              obtain ⟨c, d, e, _, gd, rfl⟩ := gp
              rw [esp] at e
              injection e with _ e
              injection e with e2 _
              rw [← e2] at gd o
              exact gb ⟨gd, o.2.2.1, o.2.2.2⟩
          · refine ⟨_, rfl, _, _, _, _, rfl, rfl, SqL.of hN, at0, rfl, _, rfl, ifT (decide_eq_true (numV_no ga)) (bad (no_word mw' fun p' gp o => ?_) _ S4)⟩
            obtain ⟨c, d, e, gc, _, rfl⟩ := gp
            rw [esp] at e
            injection e with e1 _
            rw [← e1] at gc o
            exact ga ⟨gc, o.1, o.2.1⟩
        · refine ⟨_, rfl, N, _, rfl, .inl (SqL.of hN), rfl, _, rfl, ifT ?_ (bad (no_word mw' fun p' gp => ?_) _ S4)⟩
          · rw [List.length_map, dec_int]
            have : ¬ ((xs.length : Nat) : Int) = 2 := by omega
            simp [this]
          · obtain ⟨c, d, e, _⟩ := gp
            rw [← exs] at e
            exact absurd (by rw [e]; rfl) h2
    · rintro σ H2 ⟨ks, x, y, z, rfl, S2, hp2, LM, em, oks⟩
      have eM : ws.take (ws.map V.str).length = ws := List.take_of_length_le (by rw [List.length_map]; exact Nat.le_refl _)
      rw [eM] at em
      have hlen : (ks.map fun k => V.ref k.1).length = ks.length := List.length_map _
      have hpl : (ptsOf ks).length = ks.length := List.length_map _
      have no : BadP (ptsOf ks) → Q .non H2 := fun b => bad (fun ps hps => hps.2 (by
        have hag := hps.1
        rw [← ews] at hag
        rw [hag.uniq em]
        exact b)) _ S2
      by_cases h2 : ks.length < 2
      · exact ⟨_, rfl, P0, _, rfl, .inl (SqL.of LM.lst), _, _, rfl, rfl, _, rfl, ifT (decide_eq_true (by rw [hlen]; omega)) (no (.inl (by omega)))⟩
      refine ⟨_, rfl, P0, _, rfl, .inl (SqL.of LM.lst), _, _, rfl, rfl, _, rfl, ifF (decide_eq_false (by rw [hlen]; omega)) ?_⟩
      by_cases h20 : 20 < ks.length
      · exact ⟨_, rfl, P0, _, rfl, .inl (SqL.of LM.lst), _, _, rfl, rfl, _, rfl, ifT (decide_eq_true (by rw [hlen]; omega)) (no (.inr (.inl (by omega))))⟩
      refine ⟨_, rfl, P0, _, rfl, .inl (SqL.of LM.lst), _, _, rfl, rfl, _, rfl, ifF (decide_eq_false (by rw [hlen]; omega)) ?_⟩
      refine ⟨_, rfl, P0, kInts ks, rfl, by rw [kInts_refs]; exact SqL.of LM.lst, fun p hp => ?_, ?_, fun L' hs hall hnd => ?_⟩
      · obtain ⟨k, hk, rfl⟩ := List.mem_map.mp hp
        exact SqT.of (LM.tup k hk)
      · unfold kInts
        rw [List.length_map]
        omega
      · by_cases hn : (ptsOf ks).Nodup
        · have := set_len hn hall
          refine ⟨_, rfl, P0, _, rfl, .inl (SqL.of LM.lst), _, _, rfl, rfl, _, rfl, ifF (decide_eq_false (by rw [hlen]; omega)) ?_⟩
          exact ⟨_, rfl, q (ptsOf ks) ⟨by rw [← ews]; exact em, fun b => bad_not b ⟨hn, fun p hp => by obtain ⟨k, hk, rfl⟩ := List.mem_map.mp hp; exact oks k hk, by omega⟩ (by omega)⟩ _ P0 ks S2 LM rfl⟩
        · have := set_less hn hs hnd
          exact ⟨_, rfl, P0, _, rfl, .inl (SqL.of LM.lst), _, _, rfl, rfl, _, rfl, ifT (decide_eq_true (by rw [hlen]; omega)) (no (.inr (.inr (.inr hn))))⟩
/-! law -/
theorem cpow12 : CPow 10 12 := ⟨by decide, by decide, by decide⟩
theorem sc_law : FnScope ["script", "text", "due", "found", "marks", "e"] ["script"] (defScope s_law) := ⟨rfl, rfl, rfl, by decide +kernel, rfl, by decide +kernel, by decide +kernel⟩
theorem ok_law {S1 S2 S3 SL : Addr} (D : Df K mg "law" s_law ["script"]) (B : Bl mg) (E1 : Ec K mg "SamePoint" S1) (E2 : Ec K mg "BadPoints" S2) (E3 : Ec K mg "BadText" S3) (EL : Ec K mg "LineError" SL) (Eg : Eg K)
    (h3L : PySem.W.subIn K (.ref S3) (.ref SL) = some true) (h31 : PySem.W.subIn K (.ref S3) (.ref S1) = some false) (h32 : PySem.W.subIn K (.ref S3) (.ref S2) = some false)
    (C__law_cell_at : Fn P w K mg base CX0 1 "_law_cell_at" ["script", "k"] (spCell K)) (C__law_set : Fn P w K mg base CX0 3 "_law_set" ["script"] (spSet K)) (C__law_text : Fn P w K mg base CX0 1 "_law_text" ["points"] (spText K))
    (C__law_spoiled : Fn P w K mg base CX0 2 "_law_spoiled" ["text", "cell"] spSpoilT) (C__law_due : Fn P w K mg base CX0 2 "_law_due" ["text"] (spDue K)) (C__law_is_points : Fn P w K mg base CX0 3 "_law_is_points" ["found", "due"] (spIsPts K))
    (X_read : Fn P w K mg base (L2.CX P w) 3 "read" ["text"] (spReadX K S3)) (M : Fe P w K mg base 1 "_law_marks_of" ["e"] (spMk K S1 S2 S3)) : FnOk P w K mg base CX0 6 D.f D.fd ["script"] (spLaw K) := by
  refine D.F.ok sc_law (fun vs H Q E h => ?_) (fun cdv A outer s H vs Q E hr h => ?_)
  · obtain ⟨a, ns, rfl, _⟩ := h
    rfl
  · obtain ⟨a, ns, rfl, hS, _, q⟩ := h
    have nd := sc_law.nd
    refine ⟨_, pss_cons (pset 1 nd (pcall C__law_text hr (pa_cons (pcall C__law_set hr (pa_cons (pv 0) pa_nil)) pa_nil)))
      (pss_cons (ps_if (pt_cmpR op_gt (pe_op op_mod (pcall C__law_cell_at hr (pa_cons (pv 0) (pa_cons pe_int pa_nil))) pe_int) pe_int (nomark _))
        (pss_one (pset 1 nd (pcall C__law_spoiled hr (pa_cons (pv 1) (pa_cons (pe_op op_mod (pe_op op_fdiv (pcall C__law_cell_at hr (pa_cons (pv 0) (pa_cons pe_int pa_nil))) pe_int) (pe_op op_pow pe_int pe_int)) pa_nil))))) pss_nil)
      (pjoin (u := fun D' σ H' => ∃ t : Str, σ = [some (.ref a), some (.str t), none, none, none, none] ∧ t.length ≤ 3000 ∧ ∀ H', D'.rt (.bl true) H')
      (pss_cons (pset 2 nd (pcall C__law_due hr (pa_cons (pv 1) pa_nil)))
      (pss_cons (pset 3 nd pe_non)
      (pss_cons (pset 4 nd (pe_lst pa_nil))
      (pss_cons (ps_try_as (i := 5) rfl rfl nd rfl rfl ⟨rfl, by decide, .inl EL.g⟩ takes0 (fun W pn xe tk _ => pss_one (pset 3 nd (pcallX X_read tk hr (pa_cons (pv 1) pa_nil))))
        (fun x oe cls d pn hz hf => pss_one (pset 4 nd (pe_marks M hr hz hf (pv 5)))))
      (pss_cons (ps_if (pt_cmpR op_isN (pv 2) pe_non (nomark _)) (pss_one (ps_ret (pe_cmpR (op_eqD hr.units) (pv 4) (pe_lst (pa_cons pe_bl (pa_cons pe_bl (pa_cons pe_bl (pa_cons pe_bl pa_nil))))) (nomark _)))) pss_nil)
      (pss_one (ps_ret (pe_and (pe_cmpR (op_eqD hr.units) (pv 4) (pe_lst pa_nil) (nomark _)) (pe_one (pcall C__law_is_points hr (pa_cons (pv 3) (pa_cons (pv 2) pa_nil)))))))))))) ?_)), ?_⟩
    · rintro D' σ H0 ⟨t, rfl, hl, q'⟩
      by_cases hps : ∃ ps, ReadOk t ps
      · obtain ⟨ps, rok⟩ := hps
        obtain ⟨pok, h20⟩ := not_bad rok.2
        refine ⟨_, rfl, t, rfl, hl, fun ps' rok' H1 d ls S1' Ld ed => ?_, fun no => absurd rok (no ps)⟩
        have eps : ps' = ps := rok'.1.uniq rok.1
        subst eps
        refine ⟨(by show 0 ≤ sizeLine; decide), fun m nm => ?_⟩
        have S2' := same_new (o := .lst ([].map V.bl)) nm
        refine ⟨_, rfl, t, rfl, hl, fun ps2 rok2 H3 f ks S3' nf Lf ef => ?_, fun no => absurd rok (no _)⟩
        have eps2 : ps2 = ps' := rok2.1.uniq rok.1
        have hm := S3' _ _ (upd_same (H := H1) (a := m) (o := .lst ([].map V.bl)))
        refine ⟨_, rfl, rfl, _, rfl, ifF (decide_eq_false (fun z => by cases z)) ?_⟩
        refine ⟨_, rfl, (by show 0 ≤ sizeLine; decide), fun n nn' => ?_⟩
        have S4' := same_new (o := .lst ([].map V.bl)) nn'
        refine ⟨blD [], blD [], bl_dp (S4' _ _ hm), bl_dp upd_same, blD_shaped _, blD_shaped _, ?_⟩
        rw [blD_eqv, decide_eq_true rfl]
        refine ⟨_, rfl, iteT ?_⟩
        have kl : ks.length ≤ 20 := by
          have e1 : (ptsOf ks).length = ks.length := List.length_map _
          rw [ef, eps2] at e1
          omega
        exact ⟨_, rfl, _, rfl, f, d, ks, ls, rfl, Lf.same S4', Ld.same (S2'.trans (S3'.trans S4')), by rw [ef, ed, eps2], kl, q' _⟩
      · have no : ∀ ps, ¬ ReadOk t ps := fun ps h => hps ⟨ps, h⟩
        refine ⟨_, rfl, t, rfl, hl, fun ps h => absurd h (no ps), fun _ H1 S1' => ?_⟩
        refine ⟨(by show 0 ≤ sizeLine; decide), fun m nm => ?_⟩
        refine ⟨_, rfl, t, rfl, hl, fun ps h => absurd h (no ps), fun _ H2 S2' => ?_⟩
        refine ⟨true, EL.exm h3L, fun _ x hx => ?_, fun z => nomatch z⟩
        refine ⟨_, rfl, rfl, S3, false, false, true, rfl, rfl, E3.c Eg, E1.kit h31, E2.kit h32, E3.kit E3.me, E3.kitV, fun H3 r S3' nr hr2 => ?_⟩
        refine ⟨_, rfl, rfl, _, rfl, ifT (decide_eq_true rfl) ?_⟩
        refine ⟨_, rfl, (by show 4 ≤ sizeLine; decide), fun n nn' => ?_⟩
        have S4' := same_new (o := .lst ([false, false, true, false].map V.bl)) nn'
        refine ⟨blD [false, false, true, false], blD [false, false, true, false], bl_dp (S4' _ _ hr2), bl_dp upd_same, blD_shaped _, blD_shaped _, ?_⟩
        rw [blD_eqv, decide_eq_true rfl]
        exact q' _
    · refine ⟨_, rfl, a, ns, rfl, hS, fun H1 p ks S np L fr pok h20 => ?_⟩
      refine ⟨p, ks, rfl, L, pok, h20, fun H2 S2 => ?_⟩
      have hS2 := (S.trans S2).seq hS
      have tl := psText_len pok.ok (by rw [show (ptsOf ks).length = ks.length from List.length_map _]; exact h20)
      refine ⟨_, rfl, a, ns, 1, rfl, hS2, by omega, fun n => ?_⟩
      refine ⟨_, _, rfl, rfl, (by show (0 : Int) < _; decide), _, _, rfl, rfl, _, rfl, ite2 (fun _ => ?_) (fun _ => ⟨_, rfl, by omega, q⟩)⟩
      refine ⟨_, rfl, _, rfl, a, ns, 1, rfl, hS2, by omega, fun n2 => ?_⟩
      refine ⟨_, _, rfl, rfl, ⟨by decide, by decide⟩, _, _, rfl, rfl, cpow12, _, _, rfl, rfl, (by show (0 : Int) < 1000000000000; decide), ?_⟩
      exact ⟨_, _, rfl, tl, fun H3 x S3' hx => ⟨x, rfl, hx, q⟩⟩
end
theorem all_mk {l : PySem.W.OpenLaw} {w : World} {K : PySem.W.Frag} {h : Heap} {mg : Str → Option Value} {fa : Addr} (X : K.In h) (G : h.Ns mainGlobals mg) (hfa : mg "law" = some (.ref fa))
    (gfar : ∃ t, mg "FARTHEST" = some (.int 1000000 t))
    {f1 : Addr} {od1 an1 : Option Addr} {sl1 : Array (Option Value)} {oc1 kV1 dc1 pm1 cd1 ct1 : Value} (a1 : PySem.W.nsIn K mainGlobals "see_points" = some (some (.ref f1)))
    (l1 : K.lookup f1 = some ⟨oc1, od1, .func (PySem.W.fnOf "see_points" "see_points" (defArgs s_see_points) (defBody s_see_points) (defScope s_see_points) .none kV1 dc1 pm1 an1 cd1 ct1), sl1⟩) (c1 : PySem.W.codeIn K cd1 "see_points" = true) (k1 : PySem.W.keepIn K (.ref f1) = true)
    {f2 : Addr} {od2 an2 : Option Addr} {sl2 : Array (Option Value)} {oc2 kV2 dc2 pm2 cd2 ct2 : Value} (a2 : PySem.W.nsIn K mainGlobals "number_of" = some (some (.ref f2)))
    (l2 : K.lookup f2 = some ⟨oc2, od2, .func (PySem.W.fnOf "number_of" "number_of" (defArgs s_number_of) (defBody s_number_of) (defScope s_number_of) .none kV2 dc2 pm2 an2 cd2 ct2), sl2⟩) (c2 : PySem.W.codeIn K cd2 "number_of" = true) (k2 : PySem.W.keepIn K (.ref f2) = true)
    {f3 : Addr} {od3 an3 : Option Addr} {sl3 : Array (Option Value)} {oc3 kV3 dc3 pm3 cd3 ct3 : Value} (a3 : PySem.W.nsIn K mainGlobals "point_of" = some (some (.ref f3)))
    (l3 : K.lookup f3 = some ⟨oc3, od3, .func (PySem.W.fnOf "point_of" "point_of" (defArgs s_point_of) (defBody s_point_of) (defScope s_point_of) .none kV3 dc3 pm3 an3 cd3 ct3), sl3⟩) (c3 : PySem.W.codeIn K cd3 "point_of" = true) (k3 : PySem.W.keepIn K (.ref f3) = true)
    {f4 : Addr} {od4 an4 : Option Addr} {sl4 : Array (Option Value)} {oc4 kV4 dc4 pm4 cd4 ct4 : Value} (a4 : PySem.W.nsIn K mainGlobals "read" = some (some (.ref f4)))
    (l4 : K.lookup f4 = some ⟨oc4, od4, .func (PySem.W.fnOf "read" "read" (defArgs s_read) (defBody s_read) (defScope s_read) .none kV4 dc4 pm4 an4 cd4 ct4), sl4⟩) (c4 : PySem.W.codeIn K cd4 "read" = true) (k4 : PySem.W.keepIn K (.ref f4) = true)
    {f5 : Addr} {od5 an5 : Option Addr} {sl5 : Array (Option Value)} {oc5 kV5 dc5 pm5 cd5 ct5 : Value} (a5 : PySem.W.nsIn K mainGlobals "_law_cell_at" = some (some (.ref f5)))
    (l5 : K.lookup f5 = some ⟨oc5, od5, .func (PySem.W.fnOf "_law_cell_at" "_law_cell_at" (defArgs s__law_cell_at) (defBody s__law_cell_at) (defScope s__law_cell_at) .none kV5 dc5 pm5 an5 cd5 ct5), sl5⟩) (c5 : PySem.W.codeIn K cd5 "_law_cell_at" = true) (k5 : PySem.W.keepIn K (.ref f5) = true)
    {f6 : Addr} {od6 an6 : Option Addr} {sl6 : Array (Option Value)} {oc6 kV6 dc6 pm6 cd6 ct6 : Value} (a6 : PySem.W.nsIn K mainGlobals "_law_whole" = some (some (.ref f6)))
    (l6 : K.lookup f6 = some ⟨oc6, od6, .func (PySem.W.fnOf "_law_whole" "_law_whole" (defArgs s__law_whole) (defBody s__law_whole) (defScope s__law_whole) .none kV6 dc6 pm6 an6 cd6 ct6), sl6⟩) (c6 : PySem.W.codeIn K cd6 "_law_whole" = true) (k6 : PySem.W.keepIn K (.ref f6) = true)
    {f7 : Addr} {od7 an7 : Option Addr} {sl7 : Array (Option Value)} {oc7 kV7 dc7 pm7 cd7 ct7 : Value} (a7 : PySem.W.nsIn K mainGlobals "_law_point_by" = some (some (.ref f7)))
    (l7 : K.lookup f7 = some ⟨oc7, od7, .func (PySem.W.fnOf "_law_point_by" "_law_point_by" (defArgs s__law_point_by) (defBody s__law_point_by) (defScope s__law_point_by) .none kV7 dc7 pm7 an7 cd7 ct7), sl7⟩) (c7 : PySem.W.codeIn K cd7 "_law_point_by" = true) (k7 : PySem.W.keepIn K (.ref f7) = true)
    {f8 : Addr} {od8 an8 : Option Addr} {sl8 : Array (Option Value)} {oc8 kV8 dc8 pm8 cd8 ct8 : Value} (a8 : PySem.W.nsIn K mainGlobals "_law_points_by" = some (some (.ref f8)))
    (l8 : K.lookup f8 = some ⟨oc8, od8, .func (PySem.W.fnOf "_law_points_by" "_law_points_by" (defArgs s__law_points_by) (defBody s__law_points_by) (defScope s__law_points_by) .none kV8 dc8 pm8 an8 cd8 ct8), sl8⟩) (c8 : PySem.W.codeIn K cd8 "_law_points_by" = true) (k8 : PySem.W.keepIn K (.ref f8) = true)
    {f9 : Addr} {od9 an9 : Option Addr} {sl9 : Array (Option Value)} {oc9 kV9 dc9 pm9 cd9 ct9 : Value} (a9 : PySem.W.nsIn K mainGlobals "_law_set" = some (some (.ref f9)))
    (l9 : K.lookup f9 = some ⟨oc9, od9, .func (PySem.W.fnOf "_law_set" "_law_set" (defArgs s__law_set) (defBody s__law_set) (defScope s__law_set) .none kV9 dc9 pm9 an9 cd9 ct9), sl9⟩) (c9 : PySem.W.codeIn K cd9 "_law_set" = true) (k9 : PySem.W.keepIn K (.ref f9) = true)
    {f10 : Addr} {od10 an10 : Option Addr} {sl10 : Array (Option Value)} {oc10 kV10 dc10 pm10 cd10 ct10 : Value} (a10 : PySem.W.nsIn K mainGlobals "_law_is_tuple" = some (some (.ref f10)))
    (l10 : K.lookup f10 = some ⟨oc10, od10, .func (PySem.W.fnOf "_law_is_tuple" "_law_is_tuple" (defArgs s__law_is_tuple) (defBody s__law_is_tuple) (defScope s__law_is_tuple) .none kV10 dc10 pm10 an10 cd10 ct10), sl10⟩) (c10 : PySem.W.codeIn K cd10 "_law_is_tuple" = true) (k10 : PySem.W.keepIn K (.ref f10) = true)
    {f11 : Addr} {od11 an11 : Option Addr} {sl11 : Array (Option Value)} {oc11 kV11 dc11 pm11 cd11 ct11 : Value} (a11 : PySem.W.nsIn K mainGlobals "_law_text" = some (some (.ref f11)))
    (l11 : K.lookup f11 = some ⟨oc11, od11, .func (PySem.W.fnOf "_law_text" "_law_text" (defArgs s__law_text) (defBody s__law_text) (defScope s__law_text) .none kV11 dc11 pm11 an11 cd11 ct11), sl11⟩) (c11 : PySem.W.codeIn K cd11 "_law_text" = true) (k11 : PySem.W.keepIn K (.ref f11) = true)
    {f12 : Addr} {od12 an12 : Option Addr} {sl12 : Array (Option Value)} {oc12 kV12 dc12 pm12 cd12 ct12 : Value} (a12 : PySem.W.nsIn K mainGlobals "_law_is_points" = some (some (.ref f12)))
    (l12 : K.lookup f12 = some ⟨oc12, od12, .func (PySem.W.fnOf "_law_is_points" "_law_is_points" (defArgs s__law_is_points) (defBody s__law_is_points) (defScope s__law_is_points) .none kV12 dc12 pm12 an12 cd12 ct12), sl12⟩) (c12 : PySem.W.codeIn K cd12 "_law_is_points" = true) (k12 : PySem.W.keepIn K (.ref f12) = true)
    {f13 : Addr} {od13 an13 : Option Addr} {sl13 : Array (Option Value)} {oc13 kV13 dc13 pm13 cd13 ct13 : Value} (a13 : PySem.W.nsIn K mainGlobals "_law_sign_by" = some (some (.ref f13)))
    (l13 : K.lookup f13 = some ⟨oc13, od13, .func (PySem.W.fnOf "_law_sign_by" "_law_sign_by" (defArgs s__law_sign_by) (defBody s__law_sign_by) (defScope s__law_sign_by) .none kV13 dc13 pm13 an13 cd13 ct13), sl13⟩) (c13 : PySem.W.codeIn K cd13 "_law_sign_by" = true) (k13 : PySem.W.keepIn K (.ref f13) = true)
    {f14 : Addr} {od14 an14 : Option Addr} {sl14 : Array (Option Value)} {oc14 kV14 dc14 pm14 cd14 ct14 : Value} (a14 : PySem.W.nsIn K mainGlobals "_law_marks_of" = some (some (.ref f14)))
    (l14 : K.lookup f14 = some ⟨oc14, od14, .func (PySem.W.fnOf "_law_marks_of" "_law_marks_of" (defArgs s__law_marks_of) (defBody s__law_marks_of) (defScope s__law_marks_of) .none kV14 dc14 pm14 an14 cd14 ct14), sl14⟩) (c14 : PySem.W.codeIn K cd14 "_law_marks_of" = true) (k14 : PySem.W.keepIn K (.ref f14) = true)
    {f15 : Addr} {od15 an15 : Option Addr} {sl15 : Array (Option Value)} {oc15 kV15 dc15 pm15 cd15 ct15 : Value} (a15 : PySem.W.nsIn K mainGlobals "_law_spoiled" = some (some (.ref f15)))
    (l15 : K.lookup f15 = some ⟨oc15, od15, .func (PySem.W.fnOf "_law_spoiled" "_law_spoiled" (defArgs s__law_spoiled) (defBody s__law_spoiled) (defScope s__law_spoiled) .none kV15 dc15 pm15 an15 cd15 ct15), sl15⟩) (c15 : PySem.W.codeIn K cd15 "_law_spoiled" = true) (k15 : PySem.W.keepIn K (.ref f15) = true)
    {f16 : Addr} {od16 an16 : Option Addr} {sl16 : Array (Option Value)} {oc16 kV16 dc16 pm16 cd16 ct16 : Value} (a16 : PySem.W.nsIn K mainGlobals "_law_number" = some (some (.ref f16)))
    (l16 : K.lookup f16 = some ⟨oc16, od16, .func (PySem.W.fnOf "_law_number" "_law_number" (defArgs s__law_number) (defBody s__law_number) (defScope s__law_number) .none kV16 dc16 pm16 an16 cd16 ct16), sl16⟩) (c16 : PySem.W.codeIn K cd16 "_law_number" = true) (k16 : PySem.W.keepIn K (.ref f16) = true)
    {f17 : Addr} {od17 an17 : Option Addr} {sl17 : Array (Option Value)} {oc17 kV17 dc17 pm17 cd17 ct17 : Value} (a17 : PySem.W.nsIn K mainGlobals "_law_due" = some (some (.ref f17)))
    (l17 : K.lookup f17 = some ⟨oc17, od17, .func (PySem.W.fnOf "_law_due" "_law_due" (defArgs s__law_due) (defBody s__law_due) (defScope s__law_due) .none kV17 dc17 pm17 an17 cd17 ct17), sl17⟩) (c17 : PySem.W.codeIn K cd17 "_law_due" = true) (k17 : PySem.W.keepIn K (.ref f17) = true)
    {f18 : Addr} {od18 an18 : Option Addr} {sl18 : Array (Option Value)} {oc18 kV18 dc18 pm18 cd18 ct18 : Value} (a18 : PySem.W.nsIn K mainGlobals "law" = some (some (.ref f18)))
    (l18 : K.lookup f18 = some ⟨oc18, od18, .func (PySem.W.fnOf "law" "law" (defArgs s_law) (defBody s_law) (defScope s_law) .none kV18 dc18 pm18 an18 cd18 ct18), sl18⟩) (c18 : PySem.W.codeIn K cd18 "law" = true) (k18 : PySem.W.keepIn K (.ref f18) = true)
    (zlen : PySem.W.nsIn K mainGlobals "len" = some none)
    (zabs : PySem.W.nsIn K mainGlobals "abs" = some none)
    (zrange : PySem.W.nsIn K mainGlobals "range" = some none)
    (zisinstance : PySem.W.nsIn K mainGlobals "isinstance" = some none)
    (zsorted : PySem.W.nsIn K mainGlobals "sorted" = some none)
    (zlist : PySem.W.nsIn K mainGlobals "list" = some none)
    (zset : PySem.W.nsIn K mainGlobals "set" = some none)
    (zint : PySem.W.nsIn K mainGlobals "int" = some none)
    (zstr : PySem.W.nsIn K mainGlobals "str" = some none)
    (zmax : PySem.W.nsIn K mainGlobals "max" = some none)
    (ztuple : PySem.W.nsIn K mainGlobals "tuple" = some none)
    (zbool : PySem.W.nsIn K mainGlobals "bool" = some none)
    {tm : Tok} (gmost : PySem.W.nsIn K mainGlobals "MOST" = some (some (.int 20 tm)))
    {tg : Tok} (gfig : PySem.W.nsIn K mainGlobals "FIGURES" = some (some (.str "0123456789" tg)))
    {tl : Tok} (glong : PySem.W.nsIn K mainGlobals "LONGEST" = some (some (.int 7 tl)))
    {S1 : Addr}
    (g1 : PySem.W.nsIn K mainGlobals "SamePoint" = some (some (.ref S1)))
    (x1 : PySem.W.excIn K S1 [.type "ValueError", .type "Exception", .type "BaseException", .type "object"] "ValueError.__new__" = true)
    (k_1 : PySem.W.keepIn K (.ref S1) = true)
    (b1 : PySem.W.subIn K (.ref S1) (.type "BaseException") = some true)
    (v1 : PySem.W.subIn K (.ref S1) (.type "ValueError") = some true)
    (m1 : PySem.W.subIn K (.ref S1) (.ref S1) = some true)
    (t1 : PySem.W.typeIn K (.ref S1) = some (.type "type"))
    (l_1 : PySem.W.isClsIn K S1 = true)
    (d1 : PySem.W.hasDictIn K S1 = true)
    (p1 : PySem.W.findIn K (.ref S1) "__getattribute__" = some (some (.builtin "BaseException.__getattribute__")))
    (q1 : PySem.W.findIn K (.ref S1) "__getattr__" = some none)
    (r1 : PySem.W.findIn K (.ref S1) "__class__" = some (some (.builtin "object.__class__")))
    (o1 : PySem.W.mroIn K S1 (.type "object") = some true)
    {S2 : Addr}
    (g2 : PySem.W.nsIn K mainGlobals "BadPoints" = some (some (.ref S2)))
    (x2 : PySem.W.excIn K S2 [.type "ValueError", .type "Exception", .type "BaseException", .type "object"] "ValueError.__new__" = true)
    (k_2 : PySem.W.keepIn K (.ref S2) = true)
    (b2 : PySem.W.subIn K (.ref S2) (.type "BaseException") = some true)
    (v2 : PySem.W.subIn K (.ref S2) (.type "ValueError") = some true)
    (m2 : PySem.W.subIn K (.ref S2) (.ref S2) = some true)
    (t2 : PySem.W.typeIn K (.ref S2) = some (.type "type"))
    (l_2 : PySem.W.isClsIn K S2 = true)
    (d2 : PySem.W.hasDictIn K S2 = true)
    (p2 : PySem.W.findIn K (.ref S2) "__getattribute__" = some (some (.builtin "BaseException.__getattribute__")))
    (q2 : PySem.W.findIn K (.ref S2) "__getattr__" = some none)
    (r2 : PySem.W.findIn K (.ref S2) "__class__" = some (some (.builtin "object.__class__")))
    (o2 : PySem.W.mroIn K S2 (.type "object") = some true)
    {S3 : Addr}
    (g3 : PySem.W.nsIn K mainGlobals "BadText" = some (some (.ref S3)))
    (x3 : PySem.W.excIn K S3 [.type "ValueError", .type "Exception", .type "BaseException", .type "object"] "ValueError.__new__" = true)
    (k_3 : PySem.W.keepIn K (.ref S3) = true)
    (b3 : PySem.W.subIn K (.ref S3) (.type "BaseException") = some true)
    (v3 : PySem.W.subIn K (.ref S3) (.type "ValueError") = some true)
    (m3 : PySem.W.subIn K (.ref S3) (.ref S3) = some true)
    (t3 : PySem.W.typeIn K (.ref S3) = some (.type "type"))
    (l_3 : PySem.W.isClsIn K S3 = true)
    (d3 : PySem.W.hasDictIn K S3 = true)
    (p3 : PySem.W.findIn K (.ref S3) "__getattribute__" = some (some (.builtin "BaseException.__getattribute__")))
    (q3 : PySem.W.findIn K (.ref S3) "__getattr__" = some none)
    (r3 : PySem.W.findIn K (.ref S3) "__class__" = some (some (.builtin "object.__class__")))
    (o3 : PySem.W.mroIn K S3 (.type "object") = some true)
    {SL : Addr}
    (gL : PySem.W.nsIn K mainGlobals "LineError" = some (some (.ref SL)))
    (xL : PySem.W.excIn K SL [.type "ValueError", .type "Exception", .type "BaseException", .type "object"] "ValueError.__new__" = true)
    (k_L : PySem.W.keepIn K (.ref SL) = true)
    (bL : PySem.W.subIn K (.ref SL) (.type "BaseException") = some true)
    (vL : PySem.W.subIn K (.ref SL) (.type "ValueError") = some true)
    (mL : PySem.W.subIn K (.ref SL) (.ref SL) = some true)
    (tL : PySem.W.typeIn K (.ref SL) = some (.type "type"))
    (l_L : PySem.W.isClsIn K SL = true)
    (dL : PySem.W.hasDictIn K SL = true)
    (pL : PySem.W.findIn K (.ref SL) "__getattribute__" = some (some (.builtin "BaseException.__getattribute__")))
    (qL : PySem.W.findIn K (.ref SL) "__getattr__" = some none)
    (rL : PySem.W.findIn K (.ref SL) "__class__" = some (some (.builtin "object.__class__")))
    (oL : PySem.W.mroIn K SL (.type "object") = some true)
    (h3L : PySem.W.subIn K (.ref S3) (.ref SL) = some true)
    (h31 : PySem.W.subIn K (.ref S3) (.ref S1) = some false)
    (h32 : PySem.W.subIn K (.ref S3) (.ref S2) = some false)
    (hsp : PySem.W.specialIn K (.builtin "object.__class__") "__get__" = some (some (.builtin "getset_descriptor.__get__")))
    (htk : PySem.W.takesIn K (.builtin "object.__class__") = some true)
    (zVE : PySem.W.nsIn K mainGlobals "ValueError" = some none) :
    ∃ fd : FuncData, (∀ (s : Shared) (v : Value), BindsTo s fd ⟨[v], []⟩ [("script", v)]) ∧ ∀ base : Heap, K.In base → base.Ns mainGlobals mg → FnOk l.prog w K mg base CX0 6 fa fd ["script"] (spLaw K) := by
  have e := hfa.symm.trans (PySem.W.mg_of X G a18)
  cases e
  let D_see_points : Df K mg "see_points" s_see_points ["points"] := ⟨_, _, fun_mk (st := s_see_points) l1 c1 k1, PySem.W.mg_of X G a1, (fun_mk (st := s_see_points) l1 c1 k1).binds (ps := ["points"]) fun _ _ _ _ _ _ us hl => match us, hl with | [_], _ => rfl⟩
  let D_number_of : Df K mg "number_of" s_number_of ["word"] := ⟨_, _, fun_mk (st := s_number_of) l2 c2 k2, PySem.W.mg_of X G a2, (fun_mk (st := s_number_of) l2 c2 k2).binds (ps := ["word"]) fun _ _ _ _ _ _ us hl => match us, hl with | [_], _ => rfl⟩
  let D_point_of : Df K mg "point_of" s_point_of ["word"] := ⟨_, _, fun_mk (st := s_point_of) l3 c3 k3, PySem.W.mg_of X G a3, (fun_mk (st := s_point_of) l3 c3 k3).binds (ps := ["word"]) fun _ _ _ _ _ _ us hl => match us, hl with | [_], _ => rfl⟩
  let D_read : Df K mg "read" s_read ["text"] := ⟨_, _, fun_mk (st := s_read) l4 c4 k4, PySem.W.mg_of X G a4, (fun_mk (st := s_read) l4 c4 k4).binds (ps := ["text"]) fun _ _ _ _ _ _ us hl => match us, hl with | [_], _ => rfl⟩
  let D__law_cell_at : Df K mg "_law_cell_at" s__law_cell_at ["script", "k"] := ⟨_, _, fun_mk (st := s__law_cell_at) l5 c5 k5, PySem.W.mg_of X G a5, (fun_mk (st := s__law_cell_at) l5 c5 k5).binds (ps := ["script", "k"]) fun _ _ _ _ _ _ us hl => match us, hl with | [_, _], _ => rfl⟩
  let D__law_whole : Df K mg "_law_whole" s__law_whole ["found"] := ⟨_, _, fun_mk (st := s__law_whole) l6 c6 k6, PySem.W.mg_of X G a6, (fun_mk (st := s__law_whole) l6 c6 k6).binds (ps := ["found"]) fun _ _ _ _ _ _ us hl => match us, hl with | [_], _ => rfl⟩
  let D__law_point_by : Df K mg "_law_point_by" s__law_point_by ["one", "two", "way"] := ⟨_, _, fun_mk (st := s__law_point_by) l7 c7 k7, PySem.W.mg_of X G a7, (fun_mk (st := s__law_point_by) l7 c7 k7).binds (ps := ["one", "two", "way"]) fun _ _ _ _ _ _ us hl => match us, hl with | [_, _, _], _ => rfl⟩
  let D__law_points_by : Df K mg "_law_points_by" s__law_points_by ["script", "start", "count", "way"] := ⟨_, _, fun_mk (st := s__law_points_by) l8 c8 k8, PySem.W.mg_of X G a8, (fun_mk (st := s__law_points_by) l8 c8 k8).binds (ps := ["script", "start", "count", "way"]) fun _ _ _ _ _ _ us hl => match us, hl with | [_, _, _, _], _ => rfl⟩
  let D__law_set : Df K mg "_law_set" s__law_set ["script"] := ⟨_, _, fun_mk (st := s__law_set) l9 c9 k9, PySem.W.mg_of X G a9, (fun_mk (st := s__law_set) l9 c9 k9).binds (ps := ["script"]) fun _ _ _ _ _ _ us hl => match us, hl with | [_], _ => rfl⟩
  let D__law_is_tuple : Df K mg "_law_is_tuple" s__law_is_tuple ["found", "due"] := ⟨_, _, fun_mk (st := s__law_is_tuple) l10 c10 k10, PySem.W.mg_of X G a10, (fun_mk (st := s__law_is_tuple) l10 c10 k10).binds (ps := ["found", "due"]) fun _ _ _ _ _ _ us hl => match us, hl with | [_, _], _ => rfl⟩
  let D__law_text : Df K mg "_law_text" s__law_text ["points"] := ⟨_, _, fun_mk (st := s__law_text) l11 c11 k11, PySem.W.mg_of X G a11, (fun_mk (st := s__law_text) l11 c11 k11).binds (ps := ["points"]) fun _ _ _ _ _ _ us hl => match us, hl with | [_], _ => rfl⟩
  let D__law_is_points : Df K mg "_law_is_points" s__law_is_points ["found", "due"] := ⟨_, _, fun_mk (st := s__law_is_points) l12 c12 k12, PySem.W.mg_of X G a12, (fun_mk (st := s__law_is_points) l12 c12 k12).binds (ps := ["found", "due"]) fun _ _ _ _ _ _ us hl => match us, hl with | [_, _], _ => rfl⟩
  let D__law_sign_by : Df K mg "_law_sign_by" s__law_sign_by ["cell"] := ⟨_, _, fun_mk (st := s__law_sign_by) l13 c13 k13, PySem.W.mg_of X G a13, (fun_mk (st := s__law_sign_by) l13 c13 k13).binds (ps := ["cell"]) fun _ _ _ _ _ _ us hl => match us, hl with | [_], _ => rfl⟩
  let D__law_marks_of : Df K mg "_law_marks_of" s__law_marks_of ["e"] := ⟨_, _, fun_mk (st := s__law_marks_of) l14 c14 k14, PySem.W.mg_of X G a14, (fun_mk (st := s__law_marks_of) l14 c14 k14).binds (ps := ["e"]) fun _ _ _ _ _ _ us hl => match us, hl with | [_], _ => rfl⟩
  let D__law_spoiled : Df K mg "_law_spoiled" s__law_spoiled ["text", "cell"] := ⟨_, _, fun_mk (st := s__law_spoiled) l15 c15 k15, PySem.W.mg_of X G a15, (fun_mk (st := s__law_spoiled) l15 c15 k15).binds (ps := ["text", "cell"]) fun _ _ _ _ _ _ us hl => match us, hl with | [_, _], _ => rfl⟩
  let D__law_number : Df K mg "_law_number" s__law_number ["word"] := ⟨_, _, fun_mk (st := s__law_number) l16 c16 k16, PySem.W.mg_of X G a16, (fun_mk (st := s__law_number) l16 c16 k16).binds (ps := ["word"]) fun _ _ _ _ _ _ us hl => match us, hl with | [_], _ => rfl⟩
  let D__law_due : Df K mg "_law_due" s__law_due ["text"] := ⟨_, _, fun_mk (st := s__law_due) l17 c17 k17, PySem.W.mg_of X G a17, (fun_mk (st := s__law_due) l17 c17 k17).binds (ps := ["text"]) fun _ _ _ _ _ _ us hl => match us, hl with | [_], _ => rfl⟩
  let D_law : Df K mg "law" s_law ["script"] := ⟨_, _, fun_mk (st := s_law) l18 c18 k18, PySem.W.mg_of X G a18, (fun_mk (st := s_law) l18 c18 k18).binds (ps := ["script"]) fun _ _ _ _ _ _ us hl => match us, hl with | [_], _ => rfl⟩
  have B : Bl mg := ⟨PySem.W.mg_none_of X G zlen, PySem.W.mg_none_of X G zabs, PySem.W.mg_none_of X G zrange, PySem.W.mg_none_of X G zisinstance, PySem.W.mg_none_of X G zsorted, PySem.W.mg_none_of X G zlist, PySem.W.mg_none_of X G zset, PySem.W.mg_none_of X G zint, PySem.W.mg_none_of X G zstr, PySem.W.mg_none_of X G zmax, PySem.W.mg_none_of X G ztuple, PySem.W.mg_none_of X G zbool⟩
  have Gg : Gc mg := ⟨gfar, ⟨_, PySem.W.mg_of X G gmost⟩⟩
  have Gt : Gt mg := ⟨⟨_, PySem.W.mg_of X G gfig⟩, ⟨_, PySem.W.mg_of X G glong⟩⟩
  have E1 : Ec K mg "SamePoint" S1 := ⟨PySem.W.mg_of X G g1, x1, k_1, b1, v1, m1, t1, l_1, d1, p1, q1, r1, o1⟩
  have E2 : Ec K mg "BadPoints" S2 := ⟨PySem.W.mg_of X G g2, x2, k_2, b2, v2, m2, t2, l_2, d2, p2, q2, r2, o2⟩
  have E3 : Ec K mg "BadText" S3 := ⟨PySem.W.mg_of X G g3, x3, k_3, b3, v3, m3, t3, l_3, d3, p3, q3, r3, o3⟩
  have EL : Ec K mg "LineError" SL := ⟨PySem.W.mg_of X G gL, xL, k_L, bL, vL, mL, tL, l_L, dL, pL, qL, rL, oL⟩
  have Eg : Eg K := ⟨hsp, htk⟩
  have mV := PySem.W.mg_none_of X G zVE
  refine ⟨D_law.fd, fun s v => .of_eq rfl, fun base _ _ => ?_⟩
  let N_see_points := D_see_points.fn (P := l.prog) (w := w) (base := base) (CX := (L2N.CX l.prog w)) (okN_see_points D_see_points B Gg E2)
  let X_number_of := D_number_of.fn (P := l.prog) (w := w) (base := base) (CX := (L2.CX l.prog w)) (okX_number_of D_number_of B Gt E3)
  let X_point_of := D_point_of.fn (P := l.prog) (w := w) (base := base) (CX := (L2.CX l.prog w)) (okX_point_of D_point_of B E3 X_number_of)
  let X_read := D_read.fn (P := l.prog) (w := w) (base := base) (CX := (L2.CX l.prog w)) (okX_read D_read B E2 E3 N_see_points X_point_of)
  let C__law_cell_at := D__law_cell_at.fn (P := l.prog) (w := w) (base := base) (ok__law_cell_at D__law_cell_at B)
  let C__law_whole := D__law_whole.fn (P := l.prog) (w := w) (base := base) (ok__law_whole D__law_whole B)
  let C__law_point_by := D__law_point_by.fn (P := l.prog) (w := w) (base := base) (ok__law_point_by D__law_point_by)
  let C__law_points_by := D__law_points_by.fn (P := l.prog) (w := w) (base := base) (ok__law_points_by D__law_points_by B C__law_cell_at C__law_point_by)
  let C__law_set := D__law_set.fn (P := l.prog) (w := w) (base := base) (ok__law_set D__law_set C__law_cell_at C__law_points_by)
  let C__law_is_tuple := D__law_is_tuple.fn (P := l.prog) (w := w) (base := base) (ok__law_is_tuple D__law_is_tuple B C__law_whole)
  let C__law_text := D__law_text.fn (P := l.prog) (w := w) (base := base) (ok__law_text D__law_text B)
  let C__law_is_points := D__law_is_points.fn (P := l.prog) (w := w) (base := base) (ok__law_is_points D__law_is_points B C__law_is_tuple)
  let C__law_sign_by := D__law_sign_by.fn (P := l.prog) (w := w) (base := base) (ok__law_sign_by D__law_sign_by)
  let M__law_marks_of := D__law_marks_of.fe (P := l.prog) (w := w) (base := base) (ok__law_marks_of D__law_marks_of B E1 E2 E3 mV)
  let C__law_spoiled := D__law_spoiled.fn (P := l.prog) (w := w) (base := base) (ok__law_spoiled D__law_spoiled B C__law_sign_by)
  let C__law_number := D__law_number.fn (P := l.prog) (w := w) (base := base) (ok__law_number D__law_number B)
  let C__law_due := D__law_due.fn (P := l.prog) (w := w) (base := base) (ok__law_due D__law_due B C__law_number)
  exact ok_law D_law B E1 E2 E3 EL Eg h3L h31 h32 C__law_cell_at C__law_set C__law_text C__law_spoiled C__law_due C__law_is_points X_read M__law_marks_of
end Tw
open PySem PySem.W PyProof.Rows in
set_option maxRecDepth 100000 in
set_option maxHeartbeats 0 in
theorem PySem.Challenge.cw_twoline_k12_points_read_or_refused_holds : PySem.Challenge.rw_twoline_k12_points_read_or_refused.Holds := by
  w_on; o_law; k_head; (case hw => w_witness2)
  k_fill
  refine Tw.walkX (l := PySem.Challenge.rw_twoline_k12_points_read_or_refused) (k := 6) (cx := L2.CX0) (pr := Tw.spLaw) rfl rfl ⟨rfl, by decide, by decide⟩ (fun w h Y => PySem.W.kIn_of Y) ?F (fun K H a ns hl hS => ⟨a, ns, rfl, hS, hl, fun _ => rfl⟩) fun _ _ _ _ z => z
  case F =>
    intro w mg fa h KX G hx hmg
    refine' Tw.all_mk KX G hmg (Tw.far_of hx) ?a1 ?l1 ?c1 ?k1 ?a2 ?l2 ?c2 ?k2 ?a3 ?l3 ?c3 ?k3 ?a4 ?l4 ?c4 ?k4 ?a5 ?l5 ?c5 ?k5 ?a6 ?l6 ?c6 ?k6 ?a7 ?l7 ?c7 ?k7 ?a8 ?l8 ?c8 ?k8 ?a9 ?l9 ?c9 ?k9 ?a10 ?l10 ?c10 ?k10 ?a11 ?l11 ?c11 ?k11 ?a12 ?l12 ?c12 ?k12 ?a13 ?l13 ?c13 ?k13 ?a14 ?l14 ?c14 ?k14 ?a15 ?l15 ?c15 ?k15 ?a16 ?l16 ?c16 ?k16 ?a17 ?l17 ?c17 ?k17 ?a18 ?l18 ?c18 ?k18 ?zlen ?zabs ?zrange ?zisinstance ?zsorted ?zlist ?zset ?zint ?zstr ?zmax ?ztuple ?zbool ?gmost ?gfig ?glong ?g1 ?x1 ?k_1 ?b1 ?v1 ?m1 ?t1 ?l_1 ?d1 ?p1 ?q1 ?r1 ?o1 ?g2 ?x2 ?k_2 ?b2 ?v2 ?m2 ?t2 ?l_2 ?d2 ?p2 ?q2 ?r2 ?o2 ?g3 ?x3 ?k_3 ?b3 ?v3 ?m3 ?t3 ?l_3 ?d3 ?p3 ?q3 ?r3 ?o3 ?gL ?xL ?k_L ?bL ?vL ?mL ?tL ?l_L ?dL ?pL ?qL ?rL ?oL ?h3L ?h31 ?h32 ?hsp ?htk ?zVE
    (case a1 => k_is)
    (case l1 => k_is)
    (case c1 => k_is)
    (case k1 => k_is)
    (case a2 => k_is)
    (case l2 => k_is)
    (case c2 => k_is)
    (case k2 => k_is)
    (case a3 => k_is)
    (case l3 => k_is)
    (case c3 => k_is)
    (case k3 => k_is)
    (case a4 => k_is)
    (case l4 => k_is)
    (case c4 => k_is)
    (case k4 => k_is)
    (case a5 => k_is)
    (case l5 => k_is)
    (case c5 => k_is)
    (case k5 => k_is)
    (case a6 => k_is)
    (case l6 => k_is)
    (case c6 => k_is)
    (case k6 => k_is)
    (case a7 => k_is)
    (case l7 => k_is)
    (case c7 => k_is)
    (case k7 => k_is)
    (case a8 => k_is)
    (case l8 => k_is)
    (case c8 => k_is)
    (case k8 => k_is)
    (case a9 => k_is)
    (case l9 => k_is)
    (case c9 => k_is)
    (case k9 => k_is)
    (case a10 => k_is)
    (case l10 => k_is)
    (case c10 => k_is)
    (case k10 => k_is)
    (case a11 => k_is)
    (case l11 => k_is)
    (case c11 => k_is)
    (case k11 => k_is)
    (case a12 => k_is)
    (case l12 => k_is)
    (case c12 => k_is)
    (case k12 => k_is)
    (case a13 => k_is)
    (case l13 => k_is)
    (case c13 => k_is)
    (case k13 => k_is)
    (case a14 => k_is)
    (case l14 => k_is)
    (case c14 => k_is)
    (case k14 => k_is)
    (case a15 => k_is)
    (case l15 => k_is)
    (case c15 => k_is)
    (case k15 => k_is)
    (case a16 => k_is)
    (case l16 => k_is)
    (case c16 => k_is)
    (case k16 => k_is)
    (case a17 => k_is)
    (case l17 => k_is)
    (case c17 => k_is)
    (case k17 => k_is)
    (case a18 => k_is)
    (case l18 => k_is)
    (case c18 => k_is)
    (case k18 => k_is)
    (case zlen => k_is)
    (case zabs => k_is)
    (case zrange => k_is)
    (case zisinstance => k_is)
    (case zsorted => k_is)
    (case zlist => k_is)
    (case zset => k_is)
    (case zint => k_is)
    (case zstr => k_is)
    (case zmax => k_is)
    (case ztuple => k_is)
    (case zbool => k_is)
    (case gmost => k_is)
    (case gfig => k_is)
    (case glong => k_is)
    (case g1 => k_is)
    (case x1 => k_exc)
    (case k_1 => k_is)
    (case b1 => k_is)
    (case v1 => k_is)
    (case m1 => k_is)
    (case t1 => k_is)
    (case l_1 => k_is)
    (case d1 => k_is)
    (case p1 => k_is)
    (case q1 => k_is)
    (case r1 => k_is)
    (case o1 => k_is)
    (case g2 => k_is)
    (case x2 => k_exc)
    (case k_2 => k_is)
    (case b2 => k_is)
    (case v2 => k_is)
    (case m2 => k_is)
    (case t2 => k_is)
    (case l_2 => k_is)
    (case d2 => k_is)
    (case p2 => k_is)
    (case q2 => k_is)
    (case r2 => k_is)
    (case o2 => k_is)
    (case g3 => k_is)
    (case x3 => k_exc)
    (case k_3 => k_is)
    (case b3 => k_is)
    (case v3 => k_is)
    (case m3 => k_is)
    (case t3 => k_is)
    (case l_3 => k_is)
    (case d3 => k_is)
    (case p3 => k_is)
    (case q3 => k_is)
    (case r3 => k_is)
    (case o3 => k_is)
    (case gL => k_is)
    (case xL => k_exc)
    (case k_L => k_is)
    (case bL => k_is)
    (case vL => k_is)
    (case mL => k_is)
    (case tL => k_is)
    (case l_L => k_is)
    (case dL => k_is)
    (case pL => k_is)
    (case qL => k_is)
    (case rL => k_is)
    (case oL => k_is)
    (case h3L => k_is)
    (case h31 => k_is)
    (case h32 => k_is)
    (case hsp => k_is)
    (case htk => k_is)
    (case zVE => k_is)
#print axioms PySem.Challenge.cw_twoline_k12_points_read_or_refused_holds
