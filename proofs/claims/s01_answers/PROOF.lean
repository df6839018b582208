import PyProof.Rows.All
import Wide.All
import OpenK.AllK
import Wide.FinOn
import PyProof.EqAt
import PyProof.EqKinds
import PyProof.TupleCall
import Open.SpecLaws
import KE.OsGo
import PySem.Challenge.RW_evenbeats_s01_answers
import HandS.ForSpec
import HandS.Iter
import HandS.Zip
import HandS.Conv
import HandS.More
import HandS.Comp
import HandS.ExcInit
import HandS.ExcField
set_option Elab.async false
set_option linter.all false
set_option maxRecDepth 100000
set_option maxHeartbeats 4000000
namespace EB
open Sy41
/-! # Fractions -/
def Red (f : Frac) : Prop := 0 < f.d ∧ Nat.gcd f.n.natAbs f.d = 1

theorem frac_def {n : Int} {d : Nat} (h : 0 < d) : frac n d = ⟨n / ((Nat.gcd n.natAbs d : Nat) : Int), d / Nat.gcd n.natAbs d⟩ := by
  unfold frac
  rw [if_neg (Nat.pos_iff_ne_zero.mp h)]

theorem gcd_pos' (n : Int) {d : Nat} (h : 0 < d) : 0 < Nat.gcd n.natAbs d := Nat.gcd_pos_of_pos_right _ h

theorem frac_n_mul {n : Int} {d : Nat} (h : 0 < d) : (frac n d).n * ((Nat.gcd n.natAbs d : Nat) : Int) = n := by
  rw [frac_def h]
  show n / _ * _ = n
  apply Int.ediv_mul_cancel
  have : ((Nat.gcd n.natAbs d : Nat) : Int) ∣ ((n.natAbs : Nat) : Int) := Int.natCast_dvd_natCast.mpr (Nat.gcd_dvd_left _ _)
  exact Int.dvd_natAbs.mp this
theorem frac_d_mul {n : Int} {d : Nat} (h : 0 < d) : (frac n d).d * Nat.gcd n.natAbs d = d := by
  rw [frac_def h]
  exact Nat.div_mul_cancel (Nat.gcd_dvd_right _ _)
theorem frac_d_pos (n : Int) {d : Nat} (h : 0 < d) : 0 < (frac n d).d := by
  have e := frac_d_mul (n := n) h
  rcases Nat.eq_zero_or_pos (frac n d).d with z | z
  · rw [z] at e; omega
  · exact z
theorem frac_d_le (n : Int) {d : Nat} (h : 0 < d) : (frac n d).d ≤ d := by
  rw [frac_def h]
  exact Nat.div_le_self _ _
theorem frac_cross {n : Int} {d : Nat} (h : 0 < d) : (frac n d).n * (d : Int) = n * ((frac n d).d : Int) := by
  have e1 := frac_n_mul (n := n) h
  have e2 : (((frac n d).d : Nat) : Int) * ((Nat.gcd n.natAbs d : Nat) : Int) = (d : Int) := by
    exact_mod_cast frac_d_mul (n := n) h
  generalize ((Nat.gcd n.natAbs d : Nat) : Int) = g at e1 e2
  generalize (frac n d).n = a at *
  generalize (((frac n d).d : Nat) : Int) = b at *
  subst e1
  rw [← e2]
  grind
theorem frac_red (n : Int) {d : Nat} (h : 0 < d) : Red (frac n d) := by
  refine ⟨frac_d_pos n h, ?_⟩
  have hg := gcd_pos' n h
  have e1 := frac_n_mul (n := n) h
  have e2 := frac_d_mul (n := n) h
  have e3 : (frac n d).n.natAbs * Nat.gcd n.natAbs d = n.natAbs := by
    have := congrArg Int.natAbs e1
    rw [Int.natAbs_mul] at this
    simpa using this
  have e4 : Nat.gcd ((frac n d).n.natAbs * Nat.gcd n.natAbs d) ((frac n d).d * Nat.gcd n.natAbs d) = Nat.gcd n.natAbs d := by rw [e3, e2]
  rw [Nat.gcd_mul_right] at e4
  generalize Nat.gcd n.natAbs d = g at *
  generalize Nat.gcd (frac n d).n.natAbs (frac n d).d = k at *
  have : k * g = 1 * g := by omega
  exact Nat.eq_of_mul_eq_mul_right hg this
theorem frac_pos {n : Int} {d : Nat} (h : 0 < d) (hn : 0 < n) : 0 < (frac n d).n := by
  have e := frac_n_mul (n := n) h
  have hg := gcd_pos' n h
  rcases Int.lt_trichotomy 0 (frac n d).n with z | z | z
  · exact z
  · rw [← z] at e; omega
  · have : (frac n d).n * ((Nat.gcd n.natAbs d : Nat) : Int) < 0 := Int.mul_neg_of_neg_of_pos z (by omega)
    omega
theorem frac_n_le {n : Int} {d : Nat} (h : 0 < d) (hn : 0 < n) : (frac n d).n ≤ n := by
  have e := frac_n_mul (n := n) h
  have hg := gcd_pos' n h
  have hp := frac_pos h hn
  generalize Nat.gcd n.natAbs d = g at *
  have : (frac n d).n * 1 ≤ (frac n d).n * (g : Int) := Int.mul_le_mul_of_nonneg_left (by omega) (by omega)
  omega
theorem frac_n_abs {n : Int} {d : Nat} (h : 0 < d) : (frac n d).n.natAbs ≤ n.natAbs := by
  have e := congrArg Int.natAbs (frac_n_mul (n := n) h)
  have hg := gcd_pos' n h
  rw [Int.natAbs_mul, Int.natAbs_natCast] at e
  generalize Nat.gcd n.natAbs d = g at *
  have : (frac n d).n.natAbs * 1 ≤ (frac n d).n.natAbs * g := Nat.mul_le_mul_left _ hg
  omega

theorem whole_red (z : Int) : Red (whole z) := ⟨Nat.one_pos, by show Nat.gcd z.natAbs 1 = 1; exact Nat.gcd_one_right _⟩

/-- reduced fractions that are equal are one -/
theorem red_eq {a b : Frac} (ha : Red a) (hb : Red b) (h : a.n * (b.d : Int) = b.n * (a.d : Int)) : a = b := by
  obtain ⟨an, ad⟩ := a
  obtain ⟨bn, bd⟩ := b
  obtain ⟨pa, ga⟩ := ha
  obtain ⟨pb, gb⟩ := hb
  simp only at *
  have hN : an.natAbs * bd = bn.natAbs * ad := by
    have := congrArg Int.natAbs h
    rw [Int.natAbs_mul, Int.natAbs_mul] at this
    simpa using this
  have d1 : ad ∣ bd := by
    have : ad ∣ an.natAbs * bd := ⟨bn.natAbs, by rw [hN, Nat.mul_comm]⟩
    exact (Nat.Coprime.dvd_of_dvd_mul_left (Nat.Coprime.symm ga) this)
  have d2 : bd ∣ ad := by
    have : bd ∣ bn.natAbs * ad := ⟨an.natAbs, by rw [← hN, Nat.mul_comm]⟩
    exact (Nat.Coprime.dvd_of_dvd_mul_left (Nat.Coprime.symm gb) this)
  have e : ad = bd := Nat.dvd_antisymm d1 d2
  subst e
  have : an = bn := Int.eq_of_mul_eq_mul_right (by omega) h
  subst this
  rfl
theorem frac_congr {n m : Int} {d e : Nat} (hd : 0 < d) (he : 0 < e) (h : n * (e : Int) = m * (d : Int)) : frac n d = frac m e := by
  refine red_eq (frac_red n hd) (frac_red m he) ?_
  have c1 := frac_cross (n := n) hd
  have c2 := frac_cross (n := m) he
  have p1 := frac_d_pos n hd
  have p2 := frac_d_pos m he
  generalize (frac n d).n = a at *
  generalize (frac n d).d = b at *
  generalize (frac m e).n = a' at *
  generalize (frac m e).d = b' at *
  -- a * d = n * b, a' * e = m * b', n * e = m * d  ==>  a * b' = a' * b
  have hde : (0 : Int) < (d : Int) * (e : Int) := Int.mul_pos (by omega) (by omega)
  apply Int.eq_of_mul_eq_mul_right (Int.ne_of_gt hde)
  have : a * (b' : Int) * ((d : Int) * e) = (a * d) * (b' * e) := by grind
  rw [this, c1]
  have : a' * (b : Int) * ((d : Int) * e) = (a' * e) * (b * d) := by grind
  rw [this, c2]
  grind
theorem frac_of_red {f : Frac} (h : Red f) : frac f.n f.d = f := by
  refine red_eq (frac_red _ h.1) h ?_
  exact frac_cross h.1

/-! ### order -/
def isLess (a b : Frac) : Bool := decide (a.n * (b.d : Int) < b.n * (a.d : Int))
def lesser (one other : Frac) : Frac := if isLess other one = true then other else one
def greater (one other : Frac) : Frac := if isLess one other = true then other else one
theorem isLess_eq (a b : Frac) : isLess a b = !atMost b a := by
  unfold isLess atMost
  by_cases h : b.n * (a.d : Int) ≤ a.n * (b.d : Int)
  · rw [decide_eq_true h, decide_eq_false (by omega)]; rfl
  · rw [decide_eq_false h, decide_eq_true (by omega)]; rfl
theorem lesser_eq (a b : Frac) : lesser a b = least a b := by
  unfold lesser least
  rw [isLess_eq]
  cases atMost a b <;> rfl
theorem greater_eq {a b : Frac} (ha : Red a) (hb : Red b) : greater a b = greatest a b := by
  unfold greater greatest
  rw [isLess_eq]
  by_cases h1 : atMost a b = true
  · rw [if_pos h1]
    by_cases h2 : atMost b a = true
    · rw [h2]
      have e1 : a.n * (b.d : Int) ≤ b.n * (a.d : Int) := of_decide_eq_true h1
      have e2 : b.n * (a.d : Int) ≤ a.n * (b.d : Int) := of_decide_eq_true h2
      have : a = b := red_eq ha hb (by omega)
      subst this
      rfl
    · rw [Bool.not_eq_true] at h2
      rw [h2]; rfl
  · rw [if_neg h1]
    have h2 : atMost b a = true := by
      have z : ¬ a.n * (b.d : Int) ≤ b.n * (a.d : Int) := fun z => h1 (decide_eq_true z)
      exact decide_eq_true (by omega)
    rw [h2]; rfl
theorem atMost_iff {a b : Frac} : atMost a b = true ↔ a.n * (b.d : Int) ≤ b.n * (a.d : Int) := ⟨of_decide_eq_true, fun h => decide_eq_true h⟩
theorem atMost_refl (a : Frac) : atMost a a = true := atMost_iff.mpr (Int.le_refl _)
theorem atMost_total {a b : Frac} (h : ¬ atMost a b = true) : atMost b a = true := by
  rw [atMost_iff] at *
  omega
theorem atMost_trans {a b c : Frac} (hb : 0 < b.d) (ha : 0 < a.d) (hc : 0 < c.d) (h1 : atMost a b = true) (h2 : atMost b c = true) : atMost a c = true := by
  rw [atMost_iff] at *
  -- a.n b.d <= b.n a.d ; b.n c.d <= c.n b.d
  have e1 : a.n * (b.d : Int) * (c.d : Int) ≤ b.n * (a.d : Int) * (c.d : Int) := Int.mul_le_mul_of_nonneg_right h1 (by omega)
  have e2 : b.n * (c.d : Int) * (a.d : Int) ≤ c.n * (b.d : Int) * (a.d : Int) := Int.mul_le_mul_of_nonneg_right h2 (by omega)
  have e3 : (a.n * (c.d : Int)) * (b.d : Int) ≤ (c.n * (a.d : Int)) * (b.d : Int) := by
    calc (a.n * (c.d : Int)) * (b.d : Int) = a.n * (b.d : Int) * (c.d : Int) := by grind
      _ ≤ b.n * (a.d : Int) * (c.d : Int) := e1
      _ = b.n * (c.d : Int) * (a.d : Int) := by grind
      _ ≤ c.n * (b.d : Int) * (a.d : Int) := e2
      _ = (c.n * (a.d : Int)) * (b.d : Int) := by grind
  exact Int.le_of_mul_le_mul_right e3 (by omega)
theorem greatest_or (a b : Frac) : greatest a b = a ∨ greatest a b = b := by
  unfold greatest
  split
  · exact .inr rfl
  · exact .inl rfl
theorem least_or (a b : Frac) : least a b = a ∨ least a b = b := by
  unfold least
  split
  · exact .inl rfl
  · exact .inr rfl
theorem le_greatest_left (a b : Frac) : atMost a (greatest a b) = true := by
  unfold greatest
  split
  · assumption
  · exact atMost_refl a
theorem le_greatest_right (a b : Frac) : atMost b (greatest a b) = true := by
  unfold greatest
  split
  · exact atMost_refl b
  · exact atMost_total (by assumption)
theorem least_le_left (a b : Frac) : atMost (least a b) a = true := by
  unfold least
  split
  · exact atMost_refl a
  · exact atMost_total (by assumption)
theorem least_le_right (a b : Frac) : atMost (least a b) b = true := by
  unfold least
  split
  · assumption
  · exact atMost_refl b

/-! ### Euclid -/
theorem gcd_step (a b : Nat) : Nat.gcd b (a % b) = Nat.gcd a b := by
  rw [Nat.gcd_comm a b, Nat.gcd_rec b a, Nat.gcd_comm]

/-! ### rounding -/
def ceilDiv (a b : Int) : Int := -((-a) / b)
theorem up_eq (f : Frac) : up f = ceilDiv f.n (f.d : Int) := rfl
theorem ceilDiv_congr {a b c d : Int} (hb : 0 < b) (hd : 0 < d) (h : a * d = c * b) : ceilDiv a b = ceilDiv c d := by
  unfold ceilDiv
  congr 1
  have e1 : (-a) / b = (-a) * d / (b * d) := (Int.mul_ediv_mul_of_pos_left (-a) b hd).symm
  have e2 : (-c) / d = (-c) * b / (d * b) := (Int.mul_ediv_mul_of_pos_left (-c) d hb).symm
  rw [e1, e2, Int.mul_comm d b, Int.neg_mul, Int.neg_mul, h]
theorem floorDiv_congr {a b c d : Int} (hb : 0 < b) (hd : 0 < d) (h : a * d = c * b) : a / b = c / d := by
  have e1 : a / b = a * d / (b * d) := (Int.mul_ediv_mul_of_pos_left a b hd).symm
  have e2 : c / d = c * b / (d * b) := (Int.mul_ediv_mul_of_pos_left c d hb).symm
  rw [e1, e2, Int.mul_comm d b, h]
theorem up_frac (n : Int) {d : Nat} (h : 0 < d) : up (frac n d) = ceilDiv n (d : Int) := by
  rw [up_eq]
  have hp := frac_d_pos n h
  exact ceilDiv_congr (by omega) (by omega) (frac_cross h)
theorem down_frac (n : Int) {d : Nat} (h : 0 < d) : down (frac n d) = n / (d : Int) := by
  have hp := frac_d_pos n h
  exact floorDiv_congr (by omega) (by omega) (frac_cross h)
/-- what the program reckons: 0 - (0 - above) // below -/
theorem ceil_prog (a b : Int) : 0 - (0 - a) / b = ceilDiv a b := by
  unfold ceilDiv
  rw [Int.zero_sub, Int.zero_sub]
theorem le_ceilDiv_mul {a b : Int} (hb : 0 < b) : a ≤ ceilDiv a b * b := by
  unfold ceilDiv
  have h := Int.mul_ediv_add_emod (-a) b
  have h2 := Int.emod_nonneg (-a) (Int.ne_of_gt hb)
  have e : -(-a / b) * b = -(b * (-a / b)) := by grind
  omega
theorem ediv_mul_le' (a : Int) {b : Int} (hb : 0 < b) : a / b * b ≤ a := Int.ediv_mul_le a (Int.ne_of_gt hb)
end EB

namespace EB
open Sy41
/-! # Stretches -/
/-- what a stretch of times ts (the first t0) is, lo the shortest period -/
structure Ok (lo off t0 : Nat) (ts : List Nat) (x : Stretch) : Prop where
  ra : Red x.a
  rb : Red x.b
  ab : atMost x.a x.b = true
  al : (lo : Int) * (x.a.d : Int) ≤ x.a.n
  an : x.a.n ≤ 2000
  ad : x.a.d ≤ 2000
  bn : x.b.n ≤ 3000
  bd : x.b.d ≤ 2000
  len : x.beats.length = ts.length
  h0 : (ts.zip x.beats).head? = some (t0, 0)
  bt : ∀ p ∈ ts.zip x.beats, 0 ≤ p.2 ∧ p.2 ≤ 2000 ∧ ((p.1 : Int) - t0 - 2 * off) * (x.a.d : Int) ≤ p.2 * x.a.n ∧ p.2 * x.b.n ≤ ((p.1 : Int) - t0 + 2 * off) * (x.b.d : Int)
/-- the bounds of a beat's numbers -/
structure Bnd (lo hi off : Nat) : Prop where
  one : 1 ≤ lo
  le : lo ≤ hi
  most : hi ≤ 1000
  off4 : 4 * off < lo
section
variable {lo hi off t0 : Nat} {ts : List Nat} {x y : Stretch}
theorem Ok.apos (h : Ok lo off t0 ts x) (hlo : 1 ≤ lo) : (x.a.d : Int) ≤ x.a.n ∧ 0 < x.a.n := by
  have h1 := h.al
  have h2 := h.ra.1
  have : (1 : Int) * (x.a.d : Int) ≤ (lo : Int) * (x.a.d : Int) := Int.mul_le_mul_of_nonneg_right (by omega) (by omega)
  omega
theorem Ok.bpos (h : Ok lo off t0 ts x) (hlo : 1 ≤ lo) : 0 < x.b.n := by
  have h1 := (h.apos hlo).2
  have h2 := atMost_iff.mp h.ab
  have h3 := h.rb.1
  have h4 := h.ra.1
  have : 0 < x.a.n * (x.b.d : Int) := Int.mul_pos h1 (by omega)
  rcases Int.lt_trichotomy 0 x.b.n with z | z | z
  · exact z
  · rw [← z] at h2; omega
  · have : x.b.n * (x.a.d : Int) < 0 := Int.mul_neg_of_neg_of_pos z (by omega)
    omega
/-- k * n <= c * d and lo * d <= n give k * lo <= c -/
theorem beat_bound {k n c d l : Int} (hd : 0 < d) (hk : 0 ≤ k) (hl : l * d ≤ n) (h : k * n ≤ c * d) : k * l ≤ c := by
  have e : k * (l * d) ≤ k * n := Int.mul_le_mul_of_nonneg_left hl hk
  have e2 : (k * l) * d ≤ c * d := by
    calc (k * l) * d = k * (l * d) := by grind
      _ ≤ k * n := e
      _ ≤ c * d := h
  exact Int.le_of_mul_le_mul_right e2 hd
theorem beat_2000 {k l g o : Int} (hl : 1 ≤ l) (ho : 4 * o < l) (hg : g ≤ 2000) (h : k * l ≤ g + 2 * o) : k ≤ 2000 := by
  rcases Int.lt_or_le 2000 k with z | z
  · have : 2001 * l ≤ k * l := Int.mul_le_mul_of_nonneg_right (by omega) (by omega)
    omega
  · exact z
/-- one beat alone fits a period -/
theorem beat_unique {k k' n d g o : Int} (hd : 0 < d) (h4 : 4 * o * d < n)
    (h1 : (g - 2 * o) * d ≤ k * n) (h2 : k * n ≤ (g + 2 * o) * d) (h3 : (g - 2 * o) * d ≤ k' * n) (h5 : k' * n ≤ (g + 2 * o) * d) : k = k' := by
  have e : (g + 2 * o) * d - (g - 2 * o) * d = 4 * o * d := by grind
  have hn : 0 < n ∨ n ≤ 0 := by omega
  rcases Int.lt_trichotomy k k' with z | z | z
  · exfalso
    rcases hn with hn | hn
    · have : (k' - k) * n ≥ 1 * n := Int.mul_le_mul_of_nonneg_right (by omega) (by omega)
      rw [Int.sub_mul] at this
      omega
    · have : 0 ≤ 4 * o * d := by omega
      omega
  · exact z
  · exfalso
    rcases hn with hn | hn
    · have : (k - k') * n ≥ 1 * n := Int.mul_le_mul_of_nonneg_right (by omega) (by omega)
      rw [Int.sub_mul] at this
      omega
    · have : 0 ≤ 4 * o * d := by omega
      omega
/-- the beat's window at the left end -/
theorem Ok.at_a (h : Ok lo off t0 ts x) {p : Nat × Int} (hp : p ∈ ts.zip x.beats) :
    ((p.1 : Int) - t0 - 2 * off) * (x.a.d : Int) ≤ p.2 * x.a.n ∧ p.2 * x.a.n ≤ ((p.1 : Int) - t0 + 2 * off) * (x.a.d : Int) := by
  obtain ⟨h0, _, h1, h2⟩ := h.bt p hp
  refine ⟨h1, ?_⟩
  have hb := h.rb.1
  have ha := h.ra.1
  have hab := atMost_iff.mp h.ab
  have e1 : p.2 * x.a.n * (x.b.d : Int) ≤ ((p.1 : Int) - t0 + 2 * off) * (x.a.d : Int) * (x.b.d : Int) := by
    calc p.2 * x.a.n * (x.b.d : Int) = p.2 * (x.a.n * (x.b.d : Int)) := by grind
      _ ≤ p.2 * (x.b.n * (x.a.d : Int)) := Int.mul_le_mul_of_nonneg_left hab h0
      _ = p.2 * x.b.n * (x.a.d : Int) := by grind
      _ ≤ ((p.1 : Int) - t0 + 2 * off) * (x.b.d : Int) * (x.a.d : Int) := Int.mul_le_mul_of_nonneg_right h2 (by omega)
      _ = ((p.1 : Int) - t0 + 2 * off) * (x.a.d : Int) * (x.b.d : Int) := by grind
  exact Int.le_of_mul_le_mul_right e1 (by omega)
theorem mem_zip_of {α β : Type} {l : List α} {m : List β} {i : Nat} {a : α} {b : β} (h1 : l[i]? = some a) (h2 : m[i]? = some b) : (a, b) ∈ l.zip m := by
  apply List.mem_of_getElem? (i := i)
  rw [List.getElem?_zip_eq_some]
  exact ⟨h1, h2⟩
/-- the same left end: the same beats -/
theorem beats_of_a (B : Bnd lo hi off) (hx : Ok lo off t0 ts x) (hy : Ok lo off t0 ts y) (e : x.a = y.a) : x.beats = y.beats := by
  apply List.ext_getElem?
  intro i
  cases q : ts[i]? with
  | none =>
    have h1 : ts.length ≤ i := List.getElem?_eq_none_iff.mp q
    rw [List.getElem?_eq_none_iff.mpr (by rw [hx.len]; exact h1), List.getElem?_eq_none_iff.mpr (by rw [hy.len]; exact h1)]
  | some t =>
    have h1 : i < ts.length := (List.getElem?_eq_some_iff.mp q).1
    have g1 : i < x.beats.length := by rw [hx.len]; exact h1
    have g2 : i < y.beats.length := by rw [hy.len]; exact h1
    have m1 := hx.at_a (mem_zip_of q (List.getElem?_eq_getElem g1))
    have m2 := hy.at_a (mem_zip_of q (List.getElem?_eq_getElem g2))
    rw [← e] at m2
    rw [List.getElem?_eq_getElem g1, List.getElem?_eq_getElem g2]
    congr 1
    have hd := hx.ra.1
    have hal := hx.al
    have ho := B.off4
    have h4 : 4 * (off : Int) * (x.a.d : Int) < x.a.n := by
      have : 4 * (off : Int) * (x.a.d : Int) < (lo : Int) * (x.a.d : Int) := Int.mul_lt_mul_of_pos_right (by omega) (by omega)
      omega
    exact beat_unique (by omega) h4 m1.1 m1.2 m2.1 m2.2
end

/-! ### how many there can be -/
theorem nodup_lt_length : ∀ (M : Nat) (l : List Nat), l.Nodup → (∀ k ∈ l, k < M) → l.length ≤ M
  | 0, l, _, h => by
    cases l with
    | nil => exact Nat.le_refl _
    | cons a r => exact absurd (h a List.mem_cons_self) (by omega)
  | M + 1, l, hn, h => by
    have key : l.length ≤ (l.erase M).length + 1 := by
      rw [List.length_erase]
      split <;> omega
    have hn2 : (l.erase M).Nodup := hn.erase M
    have ih := nodup_lt_length M (l.erase M) hn2 fun k hk => by
      have hk2 := (List.Nodup.mem_erase_iff hn).mp hk
      have := h k hk2.2
      have := hk2.1
      omega
    omega
theorem nodup_map_inj {α β : Type} {f : α → β} {l : List α} (h : l.Nodup) (inj : ∀ x ∈ l, ∀ y ∈ l, f x = f y → x = y) : (l.map f).Nodup := by
  induction l with
  | nil => exact List.nodup_nil
  | cons a r ih =>
    rw [List.map_cons, List.nodup_cons]
    rw [List.nodup_cons] at h
    refine ⟨fun hm => ?_, ih h.2 fun x hx y hy => inj x (List.mem_cons_of_mem _ hx) y (List.mem_cons_of_mem _ hy)⟩
    obtain ⟨b, hb, e⟩ := List.mem_map.mp hm
    have := inj b (List.mem_cons_of_mem _ hb) a List.mem_cons_self e
    rw [this] at hb
    exact h.1 hb
/-- stretches with rows of beats pairwise distinct -/
structure Oks (lo off t0 : Nat) (ts : List Nat) (l : List Stretch) : Prop where
  all : ∀ x ∈ l, Ok lo off t0 ts x
  nd : (l.map (·.beats)).Nodup
theorem Oks.length {lo hi off t0 : Nat} {ts : List Nat} {l : List Stretch} (B : Bnd lo hi off) (h : Oks lo off t0 ts l) : l.length ≤ 4002000 := by
  have hl : l.Nodup := List.Pairwise.of_map (fun x : Stretch => x.beats) (fun a b q e => q (by rw [e])) h.nd
  have e : (l.map fun x => x.a.n.toNat + 2001 * (x.a.d - 1)).Nodup := by
    refine nodup_map_inj hl fun x hx y hy q => ?_
    have ox := h.all x hx
    have oy := h.all y hy
    have px := (ox.apos B.one).2
    have py := (oy.apos B.one).2
    have h1 := ox.an
    have h2 := oy.an
    have d1 := ox.ra.1
    have d2 := oy.ra.1
    have ea : x.a = y.a := by
      have e1 : x.a.n = y.a.n := by omega
      have e2 : x.a.d = y.a.d := by omega
      cases hxa : x.a
      cases hya : y.a
      rw [hxa, hya] at e1 e2
      simp only at e1 e2
      rw [e1, e2]
    have eb := beats_of_a B ox oy ea
    -- the same row of beats: the same place
    have := h.nd
    obtain ⟨i, hi, ei⟩ := List.mem_iff_getElem.mp hx
    obtain ⟨j, hj, ej⟩ := List.mem_iff_getElem.mp hy
    have : i = j := by
      have hi' : i < (l.map (·.beats)).length := by rw [List.length_map]; exact hi
      have hj' : j < (l.map (·.beats)).length := by rw [List.length_map]; exact hj
      refine (List.getElem_inj (h₀ := hi') (h₁ := hj') h.nd).mp ?_
      rw [List.getElem_map, List.getElem_map, ei, ej]
      exact eb
    subst this
    rw [← ei, ← ej]
  have := nodup_lt_length 4002000 _ e fun k hk => by
    obtain ⟨x, hx, rfl⟩ := List.mem_map.mp hk
    have ox := h.all x hx
    have := ox.an
    have := ox.ad
    omega
  rw [List.length_map] at this
  exact this
theorem Oks.nil {lo off t0 : Nat} {ts : List Nat} : Oks lo off t0 ts [] := ⟨fun x h => (by cases h), List.nodup_nil⟩
end EB

namespace EB
open Sy41
/-! # Cuts -/
/-- the ends of a stretch -/
structure Ends2 (lo : Nat) (z : Frac × Frac) : Prop where
  ra : Red z.1
  rb : Red z.2
  ab : atMost z.1 z.2 = true
  al : (lo : Int) * (z.1.d : Int) ≤ z.1.n
  an : z.1.n ≤ 2000
  ad : z.1.d ≤ 2000
  bn : z.2.n ≤ 3000
  bd : z.2.d ≤ 2000
theorem Ok.ends {lo off t0 : Nat} {ts : List Nat} {x : Stretch} (h : Ok lo off t0 ts x) : Ends2 lo (x.a, x.b) := ⟨h.ra, h.rb, h.ab, h.al, h.an, h.ad, h.bn, h.bd⟩
theorem mono_a {a a' : Frac} {k c : Int} (hk : 0 ≤ k) (pa : 0 < a.d) (h : c * (a.d : Int) ≤ k * a.n) (l : atMost a a' = true) : c * (a'.d : Int) ≤ k * a'.n := by
  have l := atMost_iff.mp l
  have e : c * (a'.d : Int) * (a.d : Int) ≤ k * a'.n * (a.d : Int) := by
    calc c * (a'.d : Int) * (a.d : Int) = c * (a.d : Int) * (a'.d : Int) := by grind
      _ ≤ k * a.n * (a'.d : Int) := Int.mul_le_mul_of_nonneg_right h (by omega)
      _ = k * (a.n * (a'.d : Int)) := by grind
      _ ≤ k * (a'.n * (a.d : Int)) := Int.mul_le_mul_of_nonneg_left l hk
      _ = k * a'.n * (a.d : Int) := by grind
  exact Int.le_of_mul_le_mul_right e (by omega)
theorem mono_b {b b' : Frac} {k c : Int} (hk : 0 ≤ k) (pb : 0 < b.d) (h : k * b.n ≤ c * (b.d : Int)) (l : atMost b' b = true) : k * b'.n ≤ c * (b'.d : Int) := by
  have l := atMost_iff.mp l
  have e : k * b'.n * (b.d : Int) ≤ c * (b'.d : Int) * (b.d : Int) := by
    calc k * b'.n * (b.d : Int) = k * (b'.n * (b.d : Int)) := by grind
      _ ≤ k * (b.n * (b'.d : Int)) := Int.mul_le_mul_of_nonneg_left l hk
      _ = k * b.n * (b'.d : Int) := by grind
      _ ≤ c * (b.d : Int) * (b'.d : Int) := Int.mul_le_mul_of_nonneg_right h (by omega)
      _ = c * (b'.d : Int) * (b.d : Int) := by grind
  exact Int.le_of_mul_le_mul_right e (by omega)
/-- what a cut leaves -/
structure CutOk (lo off : Nat) (z z' : Frac × Frac) (gap : Nat) (m : Int) : Prop where
  ok : Ends2 lo z'
  le : atMost z.1 z'.1 = true
  ge : atMost z'.2 z.2 = true
  nn : 0 ≤ m
  wa : ((gap : Int) - 2 * off) * (z'.1.d : Int) ≤ m * z'.1.n
  wb : m * z'.2.n ≤ ((gap : Int) + 2 * off) * (z'.2.d : Int)
theorem cut_ok {lo hi off : Nat} (B : Bnd lo hi off) {z z' : Frac × Frac} {gap : Nat} {m : Int} (h : Ends2 lo z) (hg : gap ≤ 2000) (hm : m ≤ 2000) (e : cut off z gap m = some z') : CutOk lo off z z' gap m := by
  have o4 := B.off4
  have ol := B.le
  have om := B.most
  unfold cut at e
  by_cases h1 : m < 0
  · rw [if_pos h1] at e; cases e
  · rw [if_neg h1] at e
    by_cases h2 : m = 0
    · rw [if_pos h2] at e
      split at e
      · rename_i h3
        cases e
        have e1 : ((gap : Int) - 2 * off) * (z.1.d : Int) ≤ 0 * (z.1.d : Int) := Int.mul_le_mul_of_nonneg_right (by omega) (by omega)
        have e2 : (0 : Int) * (z.2.d : Int) ≤ ((gap : Int) + 2 * off) * (z.2.d : Int) := Int.mul_le_mul_of_nonneg_right (by omega) (by omega)
        subst h2
        refine ⟨h, atMost_refl _, atMost_refl _, Int.le_refl _, by omega, by omega⟩
      · cases e
    · rw [if_neg h2] at e
      have hmn : 0 < m.toNat := by omega
      have hmi : ((m.toNat : Nat) : Int) = m := by omega
      dsimp only at e
      split at e
      · rename_i h3
        cases e
        have r1 := frac_red ((gap : Int) - 2 * off) hmn
        have r2 := frac_red ((gap : Int) + 2 * off) hmn
        have c1 := frac_cross (n := (gap : Int) - 2 * off) hmn
        have c2 := frac_cross (n := (gap : Int) + 2 * off) hmn
        have b1 := frac_n_abs (n := (gap : Int) - 2 * off) hmn
        have b2 := frac_n_abs (n := (gap : Int) + 2 * off) hmn
        have d1 := frac_d_le ((gap : Int) - 2 * off) hmn
        have d2 := frac_d_le ((gap : Int) + 2 * off) hmn
        rw [hmi] at c1 c2
        generalize frac ((gap : Int) - 2 * off) m.toNat = f1 at *
        generalize frac ((gap : Int) + 2 * off) m.toNat = f2 at *
        have l1 := le_greatest_left z.1 f1
        have l2 := le_greatest_right z.1 f1
        have l3 := least_le_left z.2 f2
        have l4 := least_le_right z.2 f2
        have s1 := greatest_or z.1 f1
        have s2 := least_or z.2 f2
        have ra : Red (greatest z.1 f1) := by rcases s1 with q | q <;> rw [q]; exact h.ra; exact r1
        have rb : Red (least z.2 f2) := by rcases s2 with q | q <;> rw [q]; exact h.rb; exact r2
        refine ⟨⟨ra, rb, h3, ?_, ?_, ?_, ?_, ?_⟩, l1, l3, by omega, ?_, ?_⟩
        · have := mono_a (k := 1) (c := (lo : Int)) (a := z.1) (by decide) h.ra.1 (by have := h.al; omega) l1
          show (lo : Int) * ((greatest z.1 f1).d : Int) ≤ (greatest z.1 f1).n
          omega
        · have := h.an
          show (greatest z.1 f1).n ≤ 2000
          rcases s1 with q | q <;> rw [q]; exact this
          omega
        · have := h.ad
          show (greatest z.1 f1).d ≤ 2000
          rcases s1 with q | q <;> rw [q]; exact this
          omega
        · have := h.bn
          show (least z.2 f2).n ≤ 3000
          rcases s2 with q | q <;> rw [q]; exact this
          omega
        · have := h.bd
          show (least z.2 f2).d ≤ 2000
          rcases s2 with q | q <;> rw [q]; exact this
          omega
        · exact mono_a (by omega) r1.1 (by rw [← c1, Int.mul_comm]; exact Int.le_refl _) l2
        · exact mono_b (by omega) r2.1 (by rw [← c2, Int.mul_comm]; exact Int.le_refl _) l4
      · cases e
/-- a row of cuts -/
theorem with_ok {lo hi off : Nat} (B : Bnd lo hi off) {t : Nat} {n : Int} (ht : t ≤ 2000) (hn : n ≤ 2000) : ∀ (l : List (Nat × Int)) (z z' : Frac × Frac), Ends2 lo z → (∀ p ∈ l, 0 ≤ p.2) → with_ off t n l z = some z' →
    Ends2 lo z' ∧ atMost z.1 z'.1 = true ∧ atMost z'.2 z.2 = true
  | [], z, z', h, _, e => by
    have e : some z = some z' := e
    cases e
    exact ⟨h, atMost_refl _, atMost_refl _⟩
  | y :: l, z, z', h, hl, e => by
    unfold with_ at e
    have hy := hl y List.mem_cons_self
    cases q : cut off z (t - y.1) (n - y.2) with
    | none => rw [q] at e; cases e
    | some z1 =>
      rw [q] at e
      have c := cut_ok B h (by omega) (by omega) q
      obtain ⟨h1, h2, h3⟩ := with_ok B ht hn l z1 z' c.ok (fun p hp => hl p (List.mem_cons_of_mem _ hp)) e
      exact ⟨h1, atMost_trans c.ok.ra.1 h.ra.1 h1.ra.1 c.le h2, atMost_trans c.ok.rb.1 h1.rb.1 h.rb.1 h3 c.ge⟩
theorem to_bound {lo hi off t0 t : Nat} {ts : List Nat} {x : Stretch} (B : Bnd lo hi off) (h : Ok lo off t0 ts x) {n : Int} (hn : 0 ≤ n) (ht : t ≤ 2000)
    (e : n ≤ down (frac ((((t - t0 : Nat) : Int) + 2 * (off : Int)) * (x.a.d : Int)) x.a.n.toNat)) : n * x.a.n ≤ (((t - t0 : Nat) : Int) + 2 * off) * (x.a.d : Int) ∧ n ≤ 2000 := by
  have hp := (h.apos B.one).2
  rw [down_frac _ (by omega)] at e
  have hi : ((x.a.n.toNat : Nat) : Int) = x.a.n := by omega
  rw [hi] at e
  have h1 : n * x.a.n ≤ (((t - t0 : Nat) : Int) + 2 * off) * (x.a.d : Int) := by
    calc n * x.a.n ≤ _ := Int.mul_le_mul_of_nonneg_right e (by omega)
      _ ≤ _ := ediv_mul_le' _ hp
  refine ⟨h1, ?_⟩
  have o4 := B.off4
  have h2 := beat_bound (by have := h.ra.1; omega) hn h.al h1
  exact beat_2000 (l := lo) (g := ((t - t0 : Nat) : Int)) (o := off) (by have := B.one; omega) (by omega) (by omega) h2
/-- a stretch with a time more -/
theorem one_ok {lo hi off t0 t : Nat} {ts : List Nat} {x : Stretch} (B : Bnd lo hi off) (h : Ok lo off t0 ts x) (ht0 : t0 ≤ t) (ht : t ≤ 2000) {n : Int} {z : Frac × Frac} (hn : 0 ≤ n) (hn2 : n ≤ 2000) (e : with_ off t n (ts.zip x.beats) (x.a, x.b) = some z) :
    Ok lo off t0 (ts ++ [t]) ⟨z.1, z.2, x.beats ++ [n]⟩ := by
  obtain ⟨w1, w2, w3⟩ := with_ok B ht hn2 _ _ _ h.ends (fun p hp => (h.bt p hp).1) e
  have hz : (ts ++ [t]).zip (x.beats ++ [n]) = ts.zip x.beats ++ [(t, n)] := by
    rw [List.zip_append h.len.symm]
    rfl
  refine ⟨w1.ra, w1.rb, w1.ab, w1.al, w1.an, w1.ad, w1.bn, w1.bd, by rw [List.length_append, List.length_append, h.len]; rfl, ?_, ?_⟩
  · show ((ts ++ [t]).zip (x.beats ++ [n])).head? = some (t0, 0)
    rw [hz, List.head?_append, h.h0]
    rfl
  · intro p hp
    have hp : p ∈ (ts ++ [t]).zip (x.beats ++ [n]) := hp
    rw [hz, List.mem_append] at hp
    rcases hp with hp | hp
    · obtain ⟨b1, b2, b3, b4⟩ := h.bt p hp
      exact ⟨b1, b2, mono_a b1 h.ra.1 b3 w2, mono_b b1 h.rb.1 b4 w3⟩
    · have ep : p = (t, n) := by simpa using hp
      subst ep
      refine ⟨hn, hn2, ?_⟩
      -- the first cut is against the first time
      cases q : ts.zip x.beats with
      | nil =>
        have := h.h0
        rw [q] at this
        cases this
      | cons y l =>
        have hy := h.h0
        rw [q] at hy
        have hy : y = (t0, 0) := Option.some.inj hy
        subst hy
        rw [q] at e
        unfold with_ at e
        cases q2 : cut off (x.a, x.b) (t - t0) (n - 0) with
        | none =>
          dsimp only at e
          rw [q2] at e
          cases e
        | some z1 =>
          dsimp only at e
          rw [q2] at e
          have c := cut_ok B h.ends (by omega) (by omega) q2
          obtain ⟨v1, v2, v3⟩ := with_ok B ht hn2 l z1 z c.ok (fun p hp => (h.bt p (by rw [q]; exact List.mem_cons_of_mem _ hp)).1) e
          have a1 := mono_a c.nn c.ok.ra.1 c.wa v2
          have a2 := mono_b c.nn c.ok.rb.1 c.wb v3
          have g : ((t - t0 : Nat) : Int) = (t : Int) - t0 := by omega
          rw [g, Int.sub_zero] at a1 a2
          exact ⟨a1, a2⟩
/-- the beats that are tried -/
def tried (off t0 t : Nat) (x : Stretch) : List Int :=
  let gap : Int := ((t - t0 : Nat) : Int)
  let from_ := up (frac ((gap - 2 * (off : Int)) * (x.b.d : Int)) x.b.n.toNat)
  let to_ := down (frac ((gap + 2 * (off : Int)) * (x.a.d : Int)) x.a.n.toNat)
  let n0 := max from_ 0
  (List.range (to_ - n0 + 1).toNat).map fun (i : Nat) => n0 + (i : Int)
def one (off t : Nat) (ts : List Nat) (x : Stretch) (n : Int) : Option Stretch := (with_ off t n (ts.zip x.beats) (x.a, x.b)).map fun (z : Frac × Frac) => ⟨z.1, z.2, x.beats ++ [n]⟩
theorem split_eq (off t0 t : Nat) (ts : List Nat) (x : Stretch) : split off t0 t ts x = (tried off t0 t x).filterMap (one off t ts x) := rfl
theorem tried_mem {lo hi off t0 t : Nat} {ts : List Nat} {x : Stretch} (B : Bnd lo hi off) (h : Ok lo off t0 ts x) (ht : t ≤ 2000) {n : Int} (hn : n ∈ tried off t0 t x) : 0 ≤ n ∧ n ≤ 2000 := by
  obtain ⟨i, hi, e⟩ := List.mem_map.mp hn
  have hi := List.mem_range.mp hi
  have h0 : 0 ≤ n := by
    have := Int.le_max_right (up (frac ((((t - t0 : Nat) : Int) - 2 * (off : Int)) * (x.b.d : Int)) x.b.n.toNat)) 0
    omega
  exact ⟨h0, (to_bound B h h0 ht (by omega)).2⟩
theorem one_some {off t : Nat} {ts : List Nat} {x y : Stretch} {n : Int} (e : one off t ts x n = some y) : ∃ z, with_ off t n (ts.zip x.beats) (x.a, x.b) = some z ∧ y = ⟨z.1, z.2, x.beats ++ [n]⟩ := by
  unfold one at e
  cases q : with_ off t n (ts.zip x.beats) (x.a, x.b) with
  | none => rw [q] at e; cases e
  | some z => rw [q] at e; exact ⟨z, rfl, (Option.some.inj e).symm⟩
theorem split_ok {lo hi off t0 t : Nat} {ts : List Nat} {x : Stretch} (B : Bnd lo hi off) (h : Ok lo off t0 ts x) (ht0 : t0 ≤ t) (ht : t ≤ 2000) {y : Stretch} (hy : y ∈ split off t0 t ts x) : Ok lo off t0 (ts ++ [t]) y ∧ ∃ n, y.beats = x.beats ++ [n] := by
  rw [split_eq] at hy
  obtain ⟨n, hn, e⟩ := List.mem_filterMap.mp hy
  obtain ⟨z, e1, e2⟩ := one_some e
  obtain ⟨b1, b2⟩ := tried_mem B h ht hn
  subst e2
  exact ⟨one_ok B h ht0 ht b1 b2 e1, n, rfl⟩
theorem tried_nodup (off t0 t : Nat) (x : Stretch) : (tried off t0 t x).Nodup := by
  unfold tried
  refine nodup_map_inj List.nodup_range fun a _ b _ e => ?_
  omega
theorem split_nodup (off t0 t : Nat) (ts : List Nat) (x : Stretch) : ((split off t0 t ts x).map (·.beats)).Nodup := by
  rw [split_eq]
  unfold List.Nodup
  rw [List.pairwise_map, List.pairwise_filterMap]
  refine List.Pairwise.imp ?_ (tried_nodup off t0 t x)
  intro a b hab y hy y' hy' q
  obtain ⟨z, _, e⟩ := one_some hy
  obtain ⟨z', _, e'⟩ := one_some hy'
  subst e e'
  have q : x.beats ++ [a] = x.beats ++ [b] := q
  have := List.append_cancel_left q
  exact hab (by simpa using this)
theorem step_oks {lo hi off t0 t : Nat} {ts : List Nat} {l : List Stretch} (B : Bnd lo hi off) (h : Oks lo off t0 ts l) (ht0 : t0 ≤ t) (ht : t ≤ 2000) : Oks lo off t0 (ts ++ [t]) (l.flatMap fun x => split off t0 t ts x) := by
  obtain ⟨ha, hn⟩ := h
  refine ⟨fun y hy => ?_, ?_⟩
  · obtain ⟨x, hx, hy⟩ := List.mem_flatMap.mp hy
    exact (split_ok B (ha x hx) ht0 ht hy).1
  · induction l with
    | nil => exact List.nodup_nil
    | cons x r ih =>
      rw [List.flatMap_cons, List.map_append, List.nodup_append]
      rw [List.map_cons, List.nodup_cons] at hn
      refine ⟨split_nodup off t0 t ts x, ih (fun y hy => ha y (List.mem_cons_of_mem _ hy)) hn.2, fun b hb c hc q => ?_⟩
      obtain ⟨y, hy, e1⟩ := List.mem_map.mp hb
      obtain ⟨y', hy', e2⟩ := List.mem_map.mp hc
      obtain ⟨x', hx', hy'⟩ := List.mem_flatMap.mp hy'
      obtain ⟨n, e3⟩ := (split_ok B (ha x List.mem_cons_self) ht0 ht hy).2
      obtain ⟨n', e4⟩ := (split_ok B (ha x' (List.mem_cons_of_mem _ hx')) ht0 ht hy').2
      have e5 : x.beats ++ [n] = x'.beats ++ [n'] := by rw [← e3, ← e4, e1, e2, q]
      have e6 := (List.append_inj' e5 rfl).1
      exact hn.1 (e6 ▸ List.mem_map.mpr ⟨x', hx', rfl⟩)
/-- the whole growth -/
theorem growing_oks {lo hi off t0 : Nat} (B : Bnd lo hi off) : ∀ (r got : List Nat) (l : List Stretch), Oks lo off t0 got l → (∀ t ∈ r, t0 ≤ t ∧ t ≤ 2000) → Oks lo off t0 (got ++ r) (growing off t0 got r l)
  | [], got, l, h, _ => by rw [List.append_nil]; exact h
  | t :: r, got, l, h, hr => by
    have e := growing_oks B r (got ++ [t]) (l.flatMap fun x => split off t0 t got x) (step_oks B h (hr t List.mem_cons_self).1 (hr t List.mem_cons_self).2) fun u hu => hr u (List.mem_cons_of_mem _ hu)
    rw [List.append_assoc] at e
    exact e
theorem first_oks {lo hi off t0 : Nat} (B : Bnd lo hi off) : Oks lo off t0 [t0] [⟨whole (lo : Nat), whole (hi : Nat), [0]⟩] := by
  have h1 := B.one
  have h2 := B.le
  have h3 := B.most
  refine ⟨fun x hx => ?_, (by simp)⟩
  have e : x = ⟨whole (lo : Nat), whole (hi : Nat), [0]⟩ := by simpa using hx
  subst e
  refine ⟨whole_red _, whole_red _, atMost_iff.mpr ?_, ?_, ?_, by show 1 ≤ 2000; decide, ?_, by show 1 ≤ 2000; decide, rfl, rfl, fun p hp => ?_⟩
  · show (lo : Int) * ((1 : Nat) : Int) ≤ (hi : Int) * ((1 : Nat) : Int)
    omega
  · show (lo : Int) * ((1 : Nat) : Int) ≤ (lo : Int)
    omega
  · show (lo : Int) ≤ 2000
    omega
  · show (hi : Int) ≤ 3000
    omega
  · have e : p = (t0, 0) := by simpa using hp
    subst e
    refine ⟨Int.le_refl _, (by show (0 : Int) ≤ 2000; decide), ?_, ?_⟩
    · show ((t0 : Int) - t0 - 2 * off) * ((1 : Nat) : Int) ≤ 0 * (lo : Int)
      omega
    · show 0 * (hi : Int) ≤ ((t0 : Int) - t0 + 2 * off) * ((1 : Nat) : Int)
      omega
end EB

namespace EB
open Sy41
/-! # In order -/
/-- denominators above 0 -/
def Dp (x : Stretch) : Prop := 0 < x.a.d
def Sorted (l : List Stretch) : Prop := l.Pairwise fun y z => atMost y.a z.a = true
theorem placed_split {x : Stretch} : ∀ (l1 l2 : List Stretch), (∀ y ∈ l1, atMost y.a x.a = true) → (∀ y, l2.head? = some y → atMost y.a x.a = false) → placed x (l1 ++ l2) = l1 ++ x :: l2
  | [], [], _, _ => rfl
  | [], y :: l, _, h => by
    have e := h y rfl
    show (if atMost y.a x.a = true then y :: placed x l else x :: y :: l) = x :: y :: l
    rw [e] <;> rfl
  | y :: l1, l2, h1, h2 => by
    have e := h1 y List.mem_cons_self
    show (if atMost y.a x.a = true then y :: placed x (l1 ++ l2) else x :: y :: (l1 ++ l2)) = y :: (l1 ++ x :: l2)
    rw [if_pos e, placed_split l1 l2 (fun z hz => h1 z (List.mem_cons_of_mem _ hz)) h2]
theorem placed_perm (x : Stretch) : ∀ l, (placed x l).Perm (x :: l)
  | [] => List.Perm.refl _
  | y :: l => by
    unfold placed
    split
    · exact ((placed_perm x l).cons y).trans (List.Perm.swap x y l)
    · exact List.Perm.refl _
theorem placed_sorted {x : Stretch} (hx : Dp x) : ∀ {l : List Stretch}, (∀ y ∈ l, Dp y) → Sorted l → Sorted (placed x l)
  | [], _, _ => List.pairwise_singleton _ _
  | y :: l, hd, h => by
    have h := List.pairwise_cons.mp h
    unfold placed
    split
    · rename_i e
      refine List.pairwise_cons.mpr ⟨fun z hz => ?_, placed_sorted hx (fun z hz => hd z (List.mem_cons_of_mem _ hz)) h.2⟩
      rcases List.mem_cons.mp ((placed_perm x l).mem_iff.mp hz) with q | q
      · rw [q]; exact e
      · exact h.1 z q
    · rename_i e
      have e2 := atMost_total e
      refine List.pairwise_cons.mpr ⟨fun z hz => ?_, List.pairwise_cons.mpr h⟩
      rcases List.mem_cons.mp hz with q | q
      · rw [q]; exact e2
      · exact atMost_trans (hd y List.mem_cons_self) hx (hd z (List.mem_cons_of_mem _ q)) e2 (h.1 z q)
/-- where the loop from behind ends -/
theorem placed_at {x : Stretch} {l : List Stretch} (hx : Dp x) (hd : ∀ y ∈ l, Dp y) (hs : Sorted l) {at_ : Nat} (hle : at_ ≤ l.length) (hb : ∀ i y, at_ ≤ i → l[i]? = some y → isLess x.a y.a = true)
    (ha : at_ = 0 ∨ ∃ y, l[at_ - 1]? = some y ∧ isLess x.a y.a = false) : placed x l = l.take at_ ++ x :: l.drop at_ := by
  have e : l = l.take at_ ++ l.drop at_ := (List.take_append_drop at_ l).symm
  have key := placed_split (x := x) (l.take at_) (l.drop at_) (fun y hy => ?_) (fun y hy => ?_)
  · rw [← e] at key
    exact key
  · rcases ha with ha | ⟨z, hz, hl⟩
    · rw [ha] at hy
      exact absurd hy (by simp)
    · obtain ⟨i, hi, ei⟩ := List.mem_iff_getElem.mp hy
      rw [List.length_take] at hi
      rw [List.getElem_take] at ei
      have h1 : atMost z.a x.a = true := by
        rw [isLess_eq] at hl
        simpa using hl
      have hzl : at_ - 1 < l.length := (List.getElem?_eq_some_iff.mp hz).1
      have hz2 := (List.getElem?_eq_some_iff.mp hz).2
      have hyl : i < l.length := by omega
      by_cases q : i = at_ - 1
      · subst q
        rw [← ei, hz2]
        exact h1
      · have h2 : atMost y.a z.a = true := by
          have := List.pairwise_iff_getElem.mp hs i (at_ - 1) hyl hzl (by omega)
          rw [ei, hz2] at this
          exact this
        have dy : Dp y := hd y (ei ▸ List.getElem_mem hyl)
        have dz : Dp z := hd z (hz2 ▸ List.getElem_mem hzl)
        exact atMost_trans dz dy hx h2 h1
  · rw [List.head?_drop] at hy
    have h := hb at_ y (Nat.le_refl _) hy
    rw [isLess_eq] at h
    simpa using h
def order (l : List Stretch) : List Stretch := l.foldl (fun (l : List Stretch) (x : Stretch) => placed x l) []
theorem foldl_placed_perm : ∀ (l acc : List Stretch), (l.foldl (fun (l : List Stretch) (x : Stretch) => placed x l) acc).Perm (l ++ acc)
  | [], acc => List.Perm.refl _
  | x :: r, acc => by
    refine (foldl_placed_perm r (placed x acc)).trans ?_
    refine ((placed_perm x acc).append_left r).trans ?_
    exact List.perm_middle
theorem order_perm (l : List Stretch) : (order l).Perm l := by
  have := foldl_placed_perm l []
  rw [List.append_nil] at this
  exact this
theorem order_sorted {l : List Stretch} (h : ∀ x ∈ l, Dp x) : Sorted (order l) := by
  have key : ∀ (l acc : List Stretch), (∀ x ∈ l, Dp x) → (∀ x ∈ acc, Dp x) → Sorted acc → Sorted (l.foldl (fun (l : List Stretch) (x : Stretch) => placed x l) acc) := by
    intro l
    induction l with
    | nil => intro acc _ _ h; exact h
    | cons x r ih =>
      intro acc hl ha hs
      refine ih (placed x acc) (fun y hy => hl y (List.mem_cons_of_mem _ hy)) (fun y hy => ?_) (placed_sorted (hl x List.mem_cons_self) ha hs)
      rcases List.mem_cons.mp ((placed_perm x acc).mem_iff.mp hy) with q | q
      · rw [q]; exact hl x List.mem_cons_self
      · exact ha y q
  exact key l [] h (fun x hx => absurd hx (by simp)) List.Pairwise.nil
theorem order_take {l : List Stretch} {i : Nat} {x : Stretch} (h : l[i]? = some x) : order (l.take (i + 1)) = placed x (order (l.take i)) := by
  unfold order
  rw [List.take_add_one, h, List.foldl_append]
  rfl

/-! # The state -/
/-- what holds of a line's state -/
structure Good (s : St) : Prop where
  B : Bnd s.lo s.hi s.off
  up : s.times.Pairwise (· < ·)
  le : ∀ t ∈ s.times, t ≤ 2000
  few : s.times.length ≤ 11
theorem good_init : Good init := ⟨⟨by decide, by decide, by decide, by decide⟩, List.Pairwise.nil, fun t h => absurd h (by simp [init]), by decide⟩
/-- what growing makes, ahead of the order -/
def grown (s : St) : List Stretch := match s.times with
  | [] => [⟨whole (s.lo : Nat), whole (s.hi : Nat), []⟩]
  | t :: r => growing s.off t [t] r [⟨whole (s.lo : Nat), whole (s.hi : Nat), [0]⟩]
theorem stretches_eq (s : St) : stretches s = order (grown s) := by
  unfold stretches grown order
  split <;> rename_i h
  · rw [h]; rfl
  · rw [h]
/-- the ends' bounds alone -/
structure Fine (s : St) (x : Stretch) : Prop where
  e : Ends2 s.lo (x.a, x.b)
  len : x.beats.length = s.times.length
  bt : ∀ n ∈ x.beats, 0 ≤ n ∧ n ≤ 2000
theorem grown_oks {s : St} (G : Good s) {t : Nat} {r : List Nat} (e : s.times = t :: r) : Oks s.lo s.off t s.times (grown s) := by
  unfold grown
  rw [e]
  have := growing_oks (hi := s.hi) G.B r [t] _ (first_oks (t0 := t) G.B) (fun u hu => ?_)
  · exact this
  · have h1 := G.up
    rw [e] at h1
    have h2 := (List.pairwise_cons.mp h1).1 u hu
    exact ⟨by omega, G.le u (by rw [e]; exact List.mem_cons_of_mem _ hu)⟩
theorem ok_fine {s : St} {t : Nat} {x : Stretch} (h : Ok s.lo s.off t s.times x) : Fine s x := by
  refine ⟨h.ends, h.len, fun n hn => ?_⟩
  obtain ⟨i, hi, e⟩ := List.mem_iff_getElem.mp hn
  have hi2 : i < s.times.length := by rw [← h.len]; exact hi
  have := h.bt _ (mem_zip_of (List.getElem?_eq_getElem hi2) (List.getElem?_eq_getElem hi))
  rw [← e]
  exact ⟨this.1, this.2.1⟩
theorem grown_fine {s : St} (G : Good s) : (∀ x ∈ grown s, Fine s x) ∧ (grown s).length ≤ 4002000 := by
  cases e : s.times with
  | nil =>
    unfold grown
    rw [e]
    refine ⟨fun x hx => ?_, by show 1 ≤ 4002000; decide⟩
    have ex : x = ⟨whole (s.lo : Nat), whole (s.hi : Nat), []⟩ := by simpa using hx
    have h := (first_oks (t0 := 0) G.B).all _ List.mem_cons_self
    subst ex
    exact ⟨h.ends, by rw [e]; rfl, fun n hn => absurd hn (by simp)⟩
  | cons t r =>
    have := grown_oks G e
    exact ⟨fun x hx => ok_fine (this.all x hx), this.length G.B⟩
theorem st_fine {s : St} (G : Good s) : (∀ x ∈ stretches s, Fine s x) ∧ (stretches s).length ≤ 4002000 := by
  rw [stretches_eq]
  have h := grown_fine G
  have p := order_perm (grown s)
  exact ⟨fun x hx => h.1 x (p.mem_iff.mp hx), by rw [p.length_eq]; exact h.2⟩

/-! ### times -/
theorem put_perm (t : Nat) : ∀ l, (put t l).Perm (t :: l)
  | [] => List.Perm.refl _
  | x :: l => by
    unfold put
    split
    · exact List.Perm.refl _
    · exact ((put_perm t l).cons x).trans (List.Perm.swap t x l)
theorem put_up {t : Nat} : ∀ {l : List Nat}, l.Pairwise (· < ·) → t ∉ l → (put t l).Pairwise (· < ·)
  | [], _, _ => List.pairwise_singleton _ _
  | x :: l, h, hn => by
    have h := List.pairwise_cons.mp h
    unfold put
    split
    · rename_i q
      refine List.pairwise_cons.mpr ⟨fun z hz => ?_, List.pairwise_cons.mpr h⟩
      rcases List.mem_cons.mp hz with e | e
      · rw [e]; exact q
      · exact Nat.lt_trans q (h.1 z e)
    · rename_i q
      refine List.pairwise_cons.mpr ⟨fun z hz => ?_, put_up h.2 (fun z => hn (List.mem_cons_of_mem _ z))⟩
      rcases List.mem_cons.mp ((put_perm t l).mem_iff.mp hz) with e | e
      · have : t ≠ x := fun z => hn (by rw [z]; exact List.mem_cons_self)
        omega
      · exact h.1 z e
/-- two rising lists with the same items are one -/
theorem up_unique : ∀ {l m : List Nat}, l.Perm m → l.Pairwise (· ≤ ·) → m.Pairwise (· ≤ ·) → l = m
  | [], m, p, _, _ => (List.nil_perm.mp p).symm
  | a :: l, [], p, _, _ => absurd p.symm (by simp)
  | a :: l, b :: m, p, hl, hm => by
    have hl := List.pairwise_cons.mp hl
    have hm := List.pairwise_cons.mp hm
    have e : a = b := by
      have h1 : b ∈ a :: l := p.mem_iff.mpr List.mem_cons_self
      have h2 : a ∈ b :: m := p.mem_iff.mp List.mem_cons_self
      rcases List.mem_cons.mp h1 with q | q
      · exact q.symm
      · rcases List.mem_cons.mp h2 with q' | q'
        · exact q'
        · have := hl.1 b q
          have := hm.1 a q'
          omega
    subst e
    rw [up_unique ((List.perm_cons a).mp p) hl.2 hm.2]
theorem good_plus {s : St} (G : Good s) {t : Nat} (ht : t ≤ 2000) (hn : t ∉ s.times) (hl : s.times.length ≤ 10) : Good (plus s t) := by
  refine ⟨G.B, put_up G.up hn, fun u hu => ?_, ?_⟩
  · rcases List.mem_cons.mp ((put_perm t s.times).mem_iff.mp hu) with q | q
    · omega
    · exact G.le u q
  · show (put t s.times).length ≤ 11
    rw [(put_perm t s.times).length_eq, List.length_cons]
    omega
theorem good_drop {s : St} (G : Good s) (t : Nat) : Good { s with times := s.times.filter fun (x : Nat) => x != t } := by
  refine ⟨G.B, List.Pairwise.filter _ G.up, fun u hu => G.le u (List.mem_filter.mp hu).1, ?_⟩
  exact Nat.le_trans (List.length_filter_le _ _) G.few
end EB

namespace EB
open Sy41
/-! # Windows -/
def lessT (t n : Int) (p : Frac) : Frac := frac (t * (p.d : Int) - n * p.n) p.d
def plusT (s : Frac) (m : Int) (p : Frac) : Frac := frac (s.n * (p.d : Int) + m * p.n * (s.d : Int)) (s.d * p.d)
theorem atMost_frac {x y : Int} {d e : Nat} (hd : 0 < d) (he : 0 < e) : atMost (frac x d) (frac y e) = decide (x * (e : Int) ≤ y * (d : Int)) := by
  have c1 := frac_cross (n := x) hd
  have c2 := frac_cross (n := y) he
  have p1 := frac_d_pos x hd
  have p2 := frac_d_pos y he
  unfold atMost
  generalize (frac x d).n = a at *
  generalize (frac x d).d = b at *
  generalize (frac y e).n = a' at *
  generalize (frac y e).d = b' at *
  -- a d = x b ; a' e = y b' ; a b' <= a' b  <->  x e <= y d
  have hbb : (0 : Int) < (b : Int) * (b' : Int) := Int.mul_pos (by omega) (by omega)
  have hde : (0 : Int) < (d : Int) * (e : Int) := Int.mul_pos (by omega) (by omega)
  have e1 : (a * (b' : Int)) * ((d : Int) * e) = (x * e) * ((b : Int) * b') := by
    calc (a * (b' : Int)) * ((d : Int) * e) = (a * d) * (b' * e) := by grind
      _ = (x * b) * (b' * e) := by rw [c1]
      _ = (x * e) * ((b : Int) * b') := by grind
  have e2 : (a' * (b : Int)) * ((d : Int) * e) = (y * d) * ((b : Int) * b') := by
    calc (a' * (b : Int)) * ((d : Int) * e) = (a' * e) * (b * d) := by grind
      _ = (y * b') * (b * d) := by rw [c2]
      _ = (y * d) * ((b : Int) * b') := by grind
  have iff1 : a * (b' : Int) ≤ a' * (b : Int) ↔ x * (e : Int) ≤ y * (d : Int) := by
    constructor
    · intro h
      have := Int.mul_le_mul_of_nonneg_right h (Int.le_of_lt hde)
      rw [e1, e2] at this
      exact Int.le_of_mul_le_mul_right this hbb
    · intro h
      have := Int.mul_le_mul_of_nonneg_right h (Int.le_of_lt hbb)
      rw [← e1, ← e2] at this
      exact Int.le_of_mul_le_mul_right this hde
  simp only [iff1]
section
variable {p : Frac}
theorem item_eq (hp : 0 < p.d) (t : Nat) (n : Int) : add (whole (t : Nat)) (times (-n) p) = lessT t n p := by
  unfold add whole times lessT
  have h1 := frac_d_pos (-n * p.n) hp
  have c := frac_cross (n := -n * p.n) hp
  refine frac_congr (by show 0 < 1 * (frac (-n * p.n) p.d).d; omega) hp ?_
  show ((t : Int) * ((frac (-n * p.n) p.d).d : Int) + (frac (-n * p.n) p.d).n * ((1 : Nat) : Int)) * (p.d : Int) = ((t : Int) * (p.d : Int) - n * p.n) * ((1 * (frac (-n * p.n) p.d).d : Nat) : Int)
  generalize (frac (-n * p.n) p.d).n = a at *
  generalize (frac (-n * p.n) p.d).d = b at *
  rw [Nat.one_mul]
  have : ((t : Int) * (b : Int) + a * ((1 : Nat) : Int)) * (p.d : Int) = (t : Int) * b * p.d + a * p.d := by grind
  rw [this, c]
  grind
theorem add_whole (hp : 0 < p.d) (t n c : Int) : add (lessT t n p) (whole c) = lessT (t + c) n p := by
  unfold add whole
  have h1 := frac_d_pos (t * (p.d : Int) - n * p.n) hp
  have cr := frac_cross (n := t * (p.d : Int) - n * p.n) hp
  unfold lessT
  refine frac_congr (by show 0 < (frac _ p.d).d * 1; omega) hp ?_
  show ((frac (t * (p.d : Int) - n * p.n) p.d).n * ((1 : Nat) : Int) + c * ((frac (t * (p.d : Int) - n * p.n) p.d).d : Int)) * (p.d : Int) = ((t + c) * (p.d : Int) - n * p.n) * (((frac (t * (p.d : Int) - n * p.n) p.d).d * 1 : Nat) : Int)
  generalize (frac (t * (p.d : Int) - n * p.n) p.d).n = a at *
  generalize (frac (t * (p.d : Int) - n * p.n) p.d).d = b at *
  rw [Nat.mul_one]
  have : (a * ((1 : Nat) : Int) + c * (b : Int)) * (p.d : Int) = a * p.d + c * b * p.d := by grind
  rw [this, cr]
  grind
theorem lessT_red (hp : 0 < p.d) (t n : Int) : Red (lessT t n p) := frac_red _ hp
theorem lessT_d (hp : 0 < p.d) (t n : Int) : (lessT t n p).d ≤ p.d := frac_d_le _ hp
theorem atMost_lessT (hp : 0 < p.d) (t n u m c : Int) : atMost (lessT (t + c) n p) (lessT (u + c) m p) = atMost (lessT t n p) (lessT u m p) := by
  unfold lessT
  rw [atMost_frac hp hp, atMost_frac hp hp]
  have i1 : ((t + c) * (p.d : Int) - n * p.n) * (p.d : Int) ≤ ((u + c) * (p.d : Int) - m * p.n) * (p.d : Int) ↔ (t * (p.d : Int) - n * p.n) * (p.d : Int) ≤ (u * (p.d : Int) - m * p.n) * (p.d : Int) := by
    have e1 : ((t + c) * (p.d : Int) - n * p.n) * (p.d : Int) = (t * (p.d : Int) - n * p.n) * (p.d : Int) + c * p.d * p.d := by grind
    have e2 : ((u + c) * (p.d : Int) - m * p.n) * (p.d : Int) = (u * (p.d : Int) - m * p.n) * (p.d : Int) + c * p.d * p.d := by grind
    omega
  simp only [i1]
/-- the running ends, as the program reckons them -/
def runL (off : Int) (p : Frac) (l : List (Nat × Int)) (f : Frac) : Frac := l.foldl (fun a y => greatest a (lessT (y.1 - off) y.2 p)) f
def runM (off : Int) (p : Frac) (l : List (Nat × Int)) (f : Frac) : Frac := l.foldl (fun a y => least a (lessT (y.1 + off) y.2 p)) f
theorem foldG (hp : 0 < p.d) (c : Int) : ∀ (l : List (Nat × Int)) (t n : Int), ∃ u m, ((l.map fun (y : Nat × Int) => add (whole (y.1 : Nat)) (times (-y.2) p)).foldl greatest (lessT t n p)) = lessT u m p ∧
    l.foldl (fun a y => greatest a (lessT (y.1 + c) y.2 p)) (lessT (t + c) n p) = lessT (u + c) m p
  | [], t, n => ⟨t, n, rfl, rfl⟩
  | y :: l, t, n => by
    rw [List.map_cons, List.foldl_cons, List.foldl_cons, item_eq hp]
    unfold greatest
    rw [atMost_lessT hp]
    split
    · exact foldG hp c l _ _
    · exact foldG hp c l _ _
theorem foldM (hp : 0 < p.d) (c : Int) : ∀ (l : List (Nat × Int)) (t n : Int), ∃ u m, ((l.map fun (y : Nat × Int) => add (whole (y.1 : Nat)) (times (-y.2) p)).foldl least (lessT t n p)) = lessT u m p ∧
    l.foldl (fun a y => least a (lessT (y.1 + c) y.2 p)) (lessT (t + c) n p) = lessT (u + c) m p
  | [], t, n => ⟨t, n, rfl, rfl⟩
  | y :: l, t, n => by
    rw [List.map_cons, List.foldl_cons, List.foldl_cons, item_eq hp]
    unfold least
    rw [atMost_lessT hp]
    split
    · exact foldM hp c l _ _
    · exact foldM hp c l _ _
/-- the specification's window is the program's -/
theorem window_eq (hp : 0 < p.d) {s : St} {x : Stretch} {t : Nat} {n : Int} {r : List (Nat × Int)} (e : s.times.zip x.beats = (t, n) :: r) :
    Sy41.window s p x = (runL s.off p ((t, n) :: r) (lessT ((t : Int) - s.off) n p), runM s.off p ((t, n) :: r) (lessT ((t : Int) + s.off) n p)) := by
  unfold Sy41.window
  rw [e]
  show (add (((r.map fun (y : Nat × Int) => add (whole (y.1 : Nat)) (times (-y.2) p))).foldl greatest (add (whole (t : Nat)) (times (-n) p))) (whole (-(s.off : Int))), add (((r.map fun (y : Nat × Int) => add (whole (y.1 : Nat)) (times (-y.2) p))).foldl least (add (whole (t : Nat)) (times (-n) p))) (whole (s.off : Nat))) = _
  rw [item_eq hp]
  obtain ⟨u, m, e1, e2⟩ := foldG hp (-(s.off : Int)) r t n
  obtain ⟨u', m', e3, e4⟩ := foldM hp (s.off : Int) r t n
  rw [e1, e3, add_whole hp, add_whole hp]
  unfold runL runM
  rw [List.foldl_cons, List.foldl_cons]
  have g1 : ∀ f : Frac, greatest f f = f := fun f => by rcases greatest_or f f with q | q <;> exact q
  have g2 : ∀ f : Frac, least f f = f := fun f => by rcases least_or f f with q | q <;> exact q
  rw [g1, g2]
  have a1 : ∀ z : Int, z - (s.off : Int) = z + -(s.off : Int) := fun z => by omega
  simp only [a1]
  rw [e2, e4]
theorem runL_fine (hp : 0 < p.d) (off : Int) : ∀ (l : List (Nat × Int)) (f : Frac), Red f ∧ f.d ≤ p.d → Red (runL off p l f) ∧ (runL off p l f).d ≤ p.d
  | [], f, h => h
  | y :: l, f, h => by
    refine runL_fine hp off l _ ?_
    show Red (greatest f (lessT (y.1 - off) y.2 p)) ∧ (greatest f (lessT (y.1 - off) y.2 p)).d ≤ p.d
    rcases greatest_or f (lessT (y.1 - off) y.2 p) with q | q
    · rw [q]; exact h
    · rw [q]; exact ⟨lessT_red hp _ _, lessT_d hp _ _⟩
theorem runM_fine (hp : 0 < p.d) (off : Int) : ∀ (l : List (Nat × Int)) (f : Frac), Red f ∧ f.d ≤ p.d → Red (runM off p l f) ∧ (runM off p l f).d ≤ p.d
  | [], f, h => h
  | y :: l, f, h => by
    refine runM_fine hp off l _ ?_
    show Red (least f (lessT (y.1 + off) y.2 p)) ∧ (least f (lessT (y.1 + off) y.2 p)).d ≤ p.d
    rcases least_or f (lessT (y.1 + off) y.2 p) with q | q
    · rw [q]; exact h
    · rw [q]; exact ⟨lessT_red hp _ _, lessT_d hp _ _⟩
theorem plus_eq (hp : 0 < p.d) {f : Frac} (hf : 0 < f.d) (n : Int) : add f (times n p) = plusT f n p := by
  unfold add times plusT
  have h1 := frac_d_pos (n * p.n) hp
  have c := frac_cross (n := n * p.n) hp
  refine frac_congr (Nat.mul_pos hf h1) (Nat.mul_pos hf hp) ?_
  generalize (frac (n * p.n) p.d).n = a at *
  generalize (frac (n * p.n) p.d).d = b at *
  rw [Int.natCast_mul, Int.natCast_mul]
  have : (f.n * (b : Int) + a * (f.d : Int)) * ((f.d : Int) * (p.d : Int)) = f.n * b * f.d * p.d + (a * p.d) * f.d * f.d := by grind
  rw [this, c]
  grind
theorem next_n (hp : 0 < p.d) (hn : 0 < p.n) {w : Frac} (hw : 0 < w.d) (t : Nat) :
    up (frac ((add (whole (t : Nat)) (times (-1) w)).n * (p.d : Int)) ((add (whole (t : Nat)) (times (-1) w)).d * p.n.toNat)) = ceilDiv (((t : Int) * (w.d : Int) - w.n) * (p.d : Int)) ((w.d : Int) * p.n) := by
  have e := item_eq hw t 1
  have e0 : (times (-1) w) = times (-(1 : Int)) w := rfl
  rw [e0, e]
  have d1 : 0 < (lessT (t : Int) 1 w).d := (lessT_red hw _ _).1
  rw [up_frac _ (Nat.mul_pos d1 (by omega))]
  have hi : ((p.n.toNat : Nat) : Int) = p.n := by omega
  rw [Int.natCast_mul, hi]
  refine ceilDiv_congr (Int.mul_pos (by omega) hn) (Int.mul_pos (by omega) hn) ?_
  have c : (lessT (t : Int) 1 w).n * (w.d : Int) = ((t : Int) * (w.d : Int) - 1 * w.n) * ((lessT (t : Int) 1 w).d : Int) := frac_cross hw
  generalize (lessT (t : Int) 1 w).n = a at *
  generalize (lessT (t : Int) 1 w).d = b at *
  have : a * (p.d : Int) * ((w.d : Int) * p.n) = (a * w.d) * p.d * p.n := by grind
  rw [this, c]
  grind
/-- the specification's next is the program's -/
theorem nextOf_eq (hp : 0 < p.d) (hn : 0 < p.n) {s : St} {x : Stretch} {t : Nat} {least most : Frac} (e : Sy41.window s p x = (least, most)) (h1 : 0 < least.d) (h2 : 0 < most.d) :
    nextOf s p x t = (plusT least (ceilDiv (((t : Int) * (most.d : Int) - most.n) * (p.d : Int)) ((most.d : Int) * p.n)) p, plusT most (ceilDiv (((t : Int) * (most.d : Int) - most.n) * (p.d : Int)) ((most.d : Int) * p.n)) p) := by
  unfold nextOf
  rw [e]
  dsimp only
  rw [next_n hp hn h2, plus_eq hp h1, plus_eq hp h2]
end
end EB

namespace EB
open Sy41
/-! # What the program's small steps are -/
theorem cut_zero (off : Nat) (z : Frac × Frac) (gap : Nat) : cut off z gap 0 = if gap ≤ 2 * off then some z else none := by
  unfold cut
  rw [if_neg (by decide), if_pos rfl]
theorem cut_pos {off : Nat} {z : Frac × Frac} {gap : Nat} {m : Int} (hm : 0 < m) (h1 : Red z.1) :
    cut off z gap m = if isLess (lesser z.2 (frac ((gap : Int) + 2 * (off : Int)) m.toNat)) (greater z.1 (frac ((gap : Int) - 2 * (off : Int)) m.toNat)) = true then none
      else some (greater z.1 (frac ((gap : Int) - 2 * (off : Int)) m.toNat), lesser z.2 (frac ((gap : Int) + 2 * (off : Int)) m.toNat)) := by
  unfold cut
  rw [if_neg (by omega), if_neg (by omega), isLess_eq, lesser_eq, greater_eq h1 (frac_red _ (by omega))]
  dsimp only
  cases atMost (greatest z.1 (frac ((gap : Int) - 2 * (off : Int)) m.toNat)) (least z.2 (frac ((gap : Int) + 2 * (off : Int)) m.toNat)) <;> rfl
theorem with_cons (off t : Nat) (n : Int) (y : Nat × Int) (l : List (Nat × Int)) (z : Frac × Frac) : with_ off t n (y :: l) z = match cut off z (t - y.1) (n - y.2) with
    | some z => with_ off t n l z
    | none => none := rfl
def triedG (off gap : Nat) (x : Stretch) : List Int :=
  let from_ := up (frac (((gap : Int) - 2 * (off : Int)) * (x.b.d : Int)) x.b.n.toNat)
  let to_ := down (frac (((gap : Int) + 2 * (off : Int)) * (x.a.d : Int)) x.a.n.toNat)
  let n0 := max from_ 0
  (List.range (to_ - n0 + 1).toNat).map fun (i : Nat) => n0 + (i : Int)
theorem tried_eq (off t0 t : Nat) (x : Stretch) : tried off t0 t x = triedG off (t - t0) x := rfl
/-- as the program reckons it -/
theorem triedG_eq {off gap : Nat} {x : Stretch} (ha : 0 < x.a.n) (hb : 0 < x.b.n) : triedG off gap x =
    (List.range ((((gap : Int) + 2 * off) * (x.a.d : Int) / x.a.n + 1) - (if ceilDiv (((gap : Int) - 2 * off) * (x.b.d : Int)) x.b.n > 0 then ceilDiv (((gap : Int) - 2 * off) * (x.b.d : Int)) x.b.n else 0)).toNat).map
      fun (i : Nat) => (if ceilDiv (((gap : Int) - 2 * off) * (x.b.d : Int)) x.b.n > 0 then ceilDiv (((gap : Int) - 2 * off) * (x.b.d : Int)) x.b.n else 0) + (i : Int) := by
  unfold triedG
  dsimp only
  rw [up_frac _ (by omega), down_frac _ (by omega), show ((x.b.n.toNat : Nat) : Int) = x.b.n by omega, show ((x.a.n.toNat : Nat) : Int) = x.a.n by omega]
  generalize ceilDiv (((gap : Int) - 2 * off) * (x.b.d : Int)) x.b.n = c
  generalize ((gap : Int) + 2 * off) * (x.a.d : Int) / x.a.n = e
  have h1 : max c 0 = if c > 0 then c else 0 := by
    rw [Int.max_def]
    split <;> split <;> omega
  rw [h1]
  generalize (if c > 0 then c else 0) = k
  have h2 : e - k + 1 = e + 1 - k := by omega
  rw [h2]
theorem Ends2.pos {lo : Nat} {z : Frac × Frac} (h : Ends2 lo z) (hlo : 1 ≤ lo) : 0 < z.1.n ∧ 0 < z.2.n := by
  have h1 := h.al
  have h2 := h.ra.1
  have h3 := h.rb.1
  have h4 := atMost_iff.mp h.ab
  have : (1 : Int) * (z.1.d : Int) ≤ (lo : Int) * (z.1.d : Int) := Int.mul_le_mul_of_nonneg_right (by omega) (by omega)
  have hp : 0 < z.1.n := by omega
  refine ⟨hp, ?_⟩
  have : 0 < z.1.n * (z.2.d : Int) := Int.mul_pos hp (by omega)
  rcases Int.lt_trichotomy 0 z.2.n with q | q | q
  · exact q
  · rw [← q] at h4; omega
  · have : z.2.n * (z.1.d : Int) < 0 := Int.mul_neg_of_neg_of_pos q (by omega)
    omega
theorem ceilDiv_le {a b : Int} (hb : 0 < b) (h : 0 ≤ a) : ceilDiv a b ≤ a := by
  unfold ceilDiv
  have h1 := Int.mul_ediv_add_emod (-a) b
  have h2 := Int.emod_lt_of_pos (-a) hb
  have h3 : -a ≤ -a / b := by
    rw [Int.le_ediv_iff_mul_le hb]
    have : a * 1 ≤ a * b := Int.mul_le_mul_of_nonneg_left (by omega) h
    rw [Int.neg_mul]
    omega
  omega
theorem ceilDiv_nonpos {a b : Int} (hb : 0 < b) (h : a ≤ 0) : ceilDiv a b ≤ 0 := by
  unfold ceilDiv
  have := Int.ediv_nonneg (show (0 : Int) ≤ -a by omega) (Int.le_of_lt hb)
  omega
theorem mul_bound {x d X D : Int} (h1 : x ≤ X) (h2 : 0 ≤ d) (h3 : d ≤ D) (h4 : 0 ≤ X) : x * d ≤ X * D := by
  calc x * d ≤ X * d := Int.mul_le_mul_of_nonneg_right h1 h2
    _ ≤ X * D := Int.mul_le_mul_of_nonneg_left h3 h4
end EB

namespace EB
open Sy41
/-! # Growing, place by place -/
/-- what the loop has behind i turns -/
def At (s : St) (i : Nat) (l : List Stretch) : Prop :=
  (s.times = [] ∧ l = grown s) ∨ ∃ t0 r, s.times = t0 :: r ∧ Oks s.lo s.off t0 (s.times.take (i + 1)) l ∧ growing s.off t0 (s.times.take (i + 1)) (s.times.drop (i + 1)) l = grown s
theorem at_zero {s : St} (G : Good s) : At s 0 [⟨whole (s.lo : Nat), whole (s.hi : Nat), List.replicate (min 1 s.times.length) 0⟩] := by
  cases e : s.times with
  | nil =>
    refine .inl ⟨e, ?_⟩
    unfold grown
    rw [e]
    rfl
  | cons t0 r =>
    refine .inr ⟨t0, r, e, ?_, ?_⟩
    · rw [e]
      have h : min 1 (t0 :: r).length = 1 := by
        rw [List.length_cons]
        omega
      rw [h]
      exact first_oks (hi := s.hi) G.B
    · unfold grown
      rw [e]
      have h : min 1 (t0 :: r).length = 1 := by
        rw [List.length_cons]
        omega
      rw [h]
      rfl
theorem at_next {s : St} (G : Good s) {i : Nat} {l : List Stretch} (h : At s i l) {t : Nat} (ht : s.times[i + 1]? = some t) : ∃ t0 r, s.times = t0 :: r ∧ t0 ≤ t ∧ t ≤ 2000 ∧ Oks s.lo s.off t0 (s.times.take (i + 1)) l ∧
    (∀ u ∈ s.times.take (i + 1), u ≤ t) ∧ At s (i + 1) (l.flatMap fun x => split s.off t0 t (s.times.take (i + 1)) x) := by
  rcases h with ⟨e, _⟩ | ⟨t0, r, e, ok, eg⟩
  · rw [e] at ht
    cases ht
  · obtain ⟨hl, et⟩ := List.getElem?_eq_some_iff.mp ht
    have hup := List.pairwise_iff_getElem.mp G.up
    have h0 : t0 ≤ t := by
      have := hup 0 (i + 1) (by omega) hl (by omega)
      rw [et] at this
      have e0 : s.times[0]'(by omega) = t0 := by
        simp only [e, List.getElem_cons_zero]
      omega
    have h2 : t ≤ 2000 := G.le t (List.mem_of_getElem? ht)
    have hd : s.times.drop (i + 1) = t :: s.times.drop (i + 1 + 1) := by
      rw [List.drop_eq_getElem_cons hl, et]
    have htk : s.times.take (i + 1 + 1) = s.times.take (i + 1) ++ [t] := by
      rw [List.take_add_one, ht]
      rfl
    refine ⟨t0, r, e, h0, h2, ok, fun u hu => ?_, .inr ⟨t0, r, e, ?_, ?_⟩⟩
    · obtain ⟨j, hj, ej⟩ := List.mem_iff_getElem.mp hu
      rw [List.length_take] at hj
      rw [List.getElem_take] at ej
      have := hup j (i + 1) (by omega) hl (by omega)
      rw [et, ej] at this
      omega
    · rw [htk]
      exact step_oks G.B ok h0 h2
    · rw [← eg, hd, htk]
      rfl
theorem at_last {s : St} {i : Nat} {l : List Stretch} (h : At s i l) (hi : s.times.length ≤ i + 1) : l = grown s := by
  rcases h with ⟨_, e⟩ | ⟨t0, r, e, ok, eg⟩
  · exact e
  · rw [List.drop_eq_nil_of_le hi] at eg
    exact eg
theorem at_fine {s : St} (G : Good s) {i : Nat} {l : List Stretch} (h : At s i l) : (∀ x ∈ l, Ends2 s.lo (x.a, x.b)) ∧ l.length ≤ 4002000 := by
  rcases h with ⟨_, e⟩ | ⟨t0, r, e, ok, eg⟩
  · have := grown_fine G
    rw [e]
    exact ⟨fun x hx => (this.1 x hx).e, this.2⟩
  · exact ⟨fun x hx => (ok.all x hx).ends, ok.length G.B⟩
theorem flat_le {α β : Type} (f : α → List β) (l : List α) (i : Nat) : ((l.take i).flatMap f).length ≤ (l.flatMap f).length := by
  have e : l.flatMap f = (l.take i).flatMap f ++ (l.drop i).flatMap f := by
    rw [← List.flatMap_append, List.take_append_drop]
  rw [e, List.length_append]
  omega
theorem filterMap_take_le {α β : Type} (f : α → Option β) (l : List α) (k : Nat) : ((l.take k).filterMap f).length ≤ (l.filterMap f).length := by
  have e : l.filterMap f = (l.take k).filterMap f ++ (l.drop k).filterMap f := by
    rw [← List.filterMap_append, List.take_append_drop]
  rw [e, List.length_append]
  omega
theorem take_flat {α β : Type} (f : α → List β) {l : List α} {i : Nat} {x : α} (h : l[i]? = some x) : (l.take (i + 1)).flatMap f = (l.take i).flatMap f ++ f x := by
  rw [List.take_add_one, h, List.flatMap_append]
  simp
theorem take_filterMap {α β : Type} (f : α → Option β) {l : List α} {i : Nat} {x : α} (h : l[i]? = some x) : (l.take (i + 1)).filterMap f = (l.take i).filterMap f ++ (f x).toList := by
  rw [List.take_add_one, h, List.filterMap_append]
  show _ ++ List.filterMap f [x] = _
  rw [List.filterMap_cons]
  cases f x <;> rfl
end EB

namespace EB
open Sy41
/-! # Rising lists of whole numbers -/
theorem up_uniqueI : ∀ {l m : List Int}, l.Perm m → l.Pairwise (· ≤ ·) → m.Pairwise (· ≤ ·) → l = m
  | [], m, p, _, _ => (List.nil_perm.mp p).symm
  | a :: l, [], p, _, _ => absurd p.symm (by simp)
  | a :: l, b :: m, p, hl, hm => by
    have hl := List.pairwise_cons.mp hl
    have hm := List.pairwise_cons.mp hm
    have e : a = b := by
      have h1 : b ∈ a :: l := p.mem_iff.mpr List.mem_cons_self
      have h2 : a ∈ b :: m := p.mem_iff.mp List.mem_cons_self
      rcases List.mem_cons.mp h1 with q | q
      · exact q.symm
      · rcases List.mem_cons.mp h2 with q' | q'
        · exact q'
        · have := hl.1 b q
          have := hm.1 a q'
          omega
    subst e
    rw [up_uniqueI ((List.perm_cons a).mp p) hl.2 hm.2]
theorem ints_up {u : List Nat} (h : u.Pairwise (· < ·)) : (Sy41.ints u).Pairwise (· ≤ ·) := by
  unfold Sy41.ints
  rw [List.pairwise_map]
  exact h.imp fun h => by omega
theorem ints_perm {u ts : List Nat} (h : u.Perm ts) : (Sy41.ints u).Perm (Sy41.ints ts) := h.map _
/-- what sorted gives -/
theorem sorted_is {ns : List Int} {ts u : List Nat} (h1 : ns.Perm (Sy41.ints ts)) (h2 : ns.Pairwise (· ≤ ·)) (h3 : u.Perm ts) (h4 : u.Pairwise (· < ·)) : ns = Sy41.ints u :=
  up_uniqueI (h1.trans (ints_perm h3).symm) h2 (ints_up h4)
theorem put_perm_end (t : Nat) (l : List Nat) : (put t l).Perm (l ++ [t]) := (put_perm t l).trans (List.perm_append_comm (l₁ := [t]) (l₂ := l))
theorem ints_append (a b : List Nat) : Sy41.ints (a ++ b) = Sy41.ints a ++ Sy41.ints b := List.map_append
end EB

namespace EB
open Sy41
/-! # What each call answers -/
theorem out_ok (v : Int) : Sy41Neutral.out (ok v) = [v] := rfl
theorem out_one (v : Int) (l : List Int) : Sy41Neutral.out ⟨v, [l]⟩ = v :: (l.length : Int) :: l := by
  unfold Sy41Neutral.out
  simp
theorem out_two (v : Int) (l m : List Int) : Sy41Neutral.out ⟨v, [l, m]⟩ = v :: (l.length : Int) :: (l ++ (m.length : Int) :: m) := by
  unfold Sy41Neutral.out
  simp
theorem step_begins_bad {s : St} {lo hi off : Nat} (h : ¬ (8 ≤ lo ∧ lo ≤ hi ∧ hi ≤ 1000 ∧ 4 * off < lo)) : step s (.begins lo hi off) = (s, ok (-1)) := by
  unfold step
  dsimp only
  rw [if_pos (by unfold LONGEST; omega)]
theorem step_begins_ok {s : St} {lo hi off : Nat} (h : 8 ≤ lo ∧ lo ≤ hi ∧ hi ≤ 1000 ∧ 4 * off < lo) : step s (.begins lo hi off) = (⟨lo, hi, off, []⟩, ok 0) := by
  unfold step
  dsimp only
  rw [if_neg (by unfold LONGEST; omega)]
/-- a line's state: ten times at most -/
structure GoodS (s : St) : Prop where
  g : Good s
  ten : s.times.length ≤ 10
theorem goodS_init : GoodS init := ⟨good_init, by decide⟩
theorem good_begins {lo hi off : Nat} (h : 8 ≤ lo ∧ lo ≤ hi ∧ hi ≤ 1000 ∧ 4 * off < lo) : GoodS ⟨lo, hi, off, []⟩ :=
  ⟨⟨⟨by show 1 ≤ lo; omega, h.2.1, h.2.2.1, h.2.2.2⟩, List.Pairwise.nil, fun t ht => absurd ht (by simp), Nat.zero_le _⟩, Nat.zero_le _⟩
theorem plus_len (s : St) (t : Nat) : (plus s t).times.length = s.times.length + 1 := by
  show (put t s.times).length = _
  rw [(put_perm t s.times).length_eq, List.length_cons]
section
variable {s : St} {t : Nat}
theorem step_seen_far (h : 2000 < t) : step s (.seen t) = (s, ok (-1)) := by
  unfold step
  dsimp only
  rw [if_pos (show TIME < t from h)]
theorem step_seen_there (h : ¬ 2000 < t) (h1 : s.times.contains t = true) : step s (.seen t) = (s, ok (-4)) := by
  unfold step
  dsimp only
  rw [if_neg (show ¬ TIME < t from h), if_pos h1]
theorem step_seen_full (h : ¬ 2000 < t) (h1 : s.times.contains t = false) (h2 : 10 ≤ s.times.length) : step s (.seen t) = (s, ok (-5)) := by
  unfold step
  dsimp only
  rw [if_neg (show ¬ TIME < t from h), if_neg (by rw [h1]; decide), if_pos (show TIMES ≤ s.times.length from h2)]
theorem step_seen_none (h : ¬ 2000 < t) (h1 : s.times.contains t = false) (h2 : ¬ 10 ≤ s.times.length) (h3 : (stretches (plus s t)).isEmpty = true) : step s (.seen t) = (s, ok (-6)) := by
  unfold step
  dsimp only
  rw [if_neg (show ¬ TIME < t from h), if_neg (by rw [h1]; decide), if_neg (show ¬ TIMES ≤ s.times.length from h2), if_pos h3]
theorem step_seen_ok (h : ¬ 2000 < t) (h1 : s.times.contains t = false) (h2 : ¬ 10 ≤ s.times.length) (h3 : (stretches (plus s t)).isEmpty = false) : step s (.seen t) = (plus s t, ok ((stretches (plus s t)).length : Nat)) := by
  unfold step
  dsimp only
  rw [if_neg (show ¬ TIME < t from h), if_neg (by rw [h1]; decide), if_neg (show ¬ TIMES ≤ s.times.length from h2), if_neg (by rw [h3]; decide)]
def dropped (s : St) (t : Nat) : St := { s with times := s.times.filter fun (x : Nat) => x != t }
theorem step_drop_none (h1 : s.times.contains t = false) : step s (.drop t) = (s, ok (-2)) := by
  unfold step
  dsimp only
  rw [if_pos h1]
theorem step_drop_ok (h1 : s.times.contains t = true) : step s (.drop t) = (dropped s t, ok ((stretches (dropped s t)).length : Nat)) := by
  unfold step
  dsimp only
  rw [if_neg (by rw [h1]; decide)]
  rfl
theorem step_could_far (h : 2000 < t) : step s (.could t) = (s, ok (-1)) := by
  unfold step
  dsimp only
  rw [if_pos (show TIME < t from h)]
theorem step_could_there (h : ¬ 2000 < t) (h1 : s.times.contains t = true) : step s (.could t) = (s, ok ((stretches s).length : Nat)) := by
  unfold step
  dsimp only
  rw [if_neg (show ¬ TIME < t from h), if_pos h1]
theorem step_could_ok (h : ¬ 2000 < t) (h1 : s.times.contains t = false) : step s (.could t) = (s, ok ((stretches (plus s t)).length : Nat)) := by
  unfold step
  dsimp only
  rw [if_neg (show ¬ TIME < t from h), if_neg (by rw [h1]; decide)]
/-- could with ten times there: one more than the invariant's -/
theorem step_periods : step s .periods = (s, ⟨((stretches s).length : Nat), [(stretches s).flatMap fun (x : Stretch) => say x.a ++ say x.b]⟩) := rfl
def okPer (p q : Nat) : Prop := 1 ≤ q ∧ q ≤ 1000 ∧ 1 ≤ p ∧ p ≤ 1000 * q
instance (p q : Nat) : Decidable (okPer p q) := by unfold okPer; infer_instance
theorem asked_iff (p q : Nat) : asked p q = decide (okPer p q) := by
  rw [Bool.eq_iff_iff, decide_eq_true_iff]
  simp only [asked, Bool.and_eq_true, decide_eq_true_iff]
  exact Iff.rfl
theorem asked_bad {p q : Nat} (h : ¬ okPer p q) : asked p q = false := by
  rw [asked_iff, decide_eq_false h]
theorem asked_ok {p q : Nat} (h : okPer p q) : asked p q = true := by
  rw [asked_iff, decide_eq_true h]
variable {p q : Nat}
theorem step_fits_bad (h : ¬ okPer p q) : step s (.fits p q) = (s, ok (-1)) := by
  unfold step
  dsimp only
  rw [if_pos (asked_bad h)]
theorem step_fits_none (h : okPer p q) (h1 : of_ s (frac (p : Nat) q) = none) : step s (.fits p q) = (s, ok 0) := by
  unfold step
  dsimp only
  rw [if_neg (by rw [asked_ok h]; decide), h1]
theorem step_fits_some (h : okPer p q) {x : Stretch} (h1 : of_ s (frac (p : Nat) q) = some x) : step s (.fits p q) = (s, ⟨1, [x.beats]⟩) := by
  unfold step
  dsimp only
  rw [if_neg (by rw [asked_ok h]; decide), h1]
theorem step_window_bad (h : ¬ okPer p q) : step s (.window p q) = (s, ok (-1)) := by
  unfold step
  dsimp only
  rw [if_pos (asked_bad h)]
theorem step_window_nil (h : okPer p q) (h0 : s.times = []) : step s (.window p q) = (s, ok (-2)) := by
  unfold step
  dsimp only
  rw [if_neg (by rw [asked_ok h]; decide), if_pos (by rw [h0]; rfl)]
theorem isEmpty_ne {α : Type} {l : List α} (h : l ≠ []) : l.isEmpty = false := by
  cases l with
  | nil => exact absurd rfl h
  | cons => rfl
theorem step_window_none (h : okPer p q) (h0 : s.times ≠ []) (h1 : of_ s (frac (p : Nat) q) = none) : step s (.window p q) = (s, ok (-6)) := by
  unfold step
  dsimp only
  rw [if_neg (by rw [asked_ok h]; decide), if_neg (by rw [isEmpty_ne h0]; decide), h1]
theorem step_window_some (h : okPer p q) (h0 : s.times ≠ []) {x : Stretch} (h1 : of_ s (frac (p : Nat) q) = some x) {l m : Frac} (h2 : window s (frac (p : Nat) q) x = (l, m)) : step s (.window p q) = (s, ⟨0, [say l, say m]⟩) := by
  unfold step
  dsimp only
  rw [if_neg (by rw [asked_ok h]; decide), if_neg (by rw [isEmpty_ne h0]; decide), h1]
  dsimp only
  rw [h2]
theorem step_next_bad (h : ¬ okPer p q ∨ 2000 < t) : step s (.next p q t) = (s, ok (-1)) := by
  unfold step
  dsimp only
  rw [if_pos]
  rcases h with h | h
  · exact .inl (asked_bad h)
  · exact .inr h
theorem step_next_nil (h : okPer p q) (ht : ¬ 2000 < t) (h0 : s.times = []) : step s (.next p q t) = (s, ok (-2)) := by
  unfold step
  dsimp only
  rw [if_neg (show ¬ (asked p q = false ∨ TIME < t) from by rw [asked_ok h]; exact fun z => z.elim (fun z => by cases z) (fun z => ht z)), if_pos (by rw [h0]; rfl)]
theorem step_next_none (h : okPer p q) (ht : ¬ 2000 < t) (h0 : s.times ≠ []) (h1 : of_ s (frac (p : Nat) q) = none) : step s (.next p q t) = (s, ok (-6)) := by
  unfold step
  dsimp only
  rw [if_neg (show ¬ (asked p q = false ∨ TIME < t) from by rw [asked_ok h]; exact fun z => z.elim (fun z => by cases z) (fun z => ht z)), if_neg (by rw [isEmpty_ne h0]; decide), h1]
theorem step_next_some (h : okPer p q) (ht : ¬ 2000 < t) (h0 : s.times ≠ []) {x : Stretch} (h1 : of_ s (frac (p : Nat) q) = some x) {l m : Frac} (h2 : nextOf s (frac (p : Nat) q) x t = (l, m)) : step s (.next p q t) = (s, ⟨0, [say l, say m]⟩) := by
  unfold step
  dsimp only
  rw [if_neg (show ¬ (asked p q = false ∨ TIME < t) from by rw [asked_ok h]; exact fun z => z.elim (fun z => by cases z) (fun z => ht z)), if_neg (by rw [isEmpty_ne h0]; decide), h1]
  dsimp only
  rw [h2]
theorem step_beats_none {k : Nat} (h : (stretches s).length ≤ k) : step s (.beats k) = (s, ok (-2)) := by
  unfold step
  dsimp only
  rw [List.getElem?_eq_none_iff.mpr h]
theorem step_beats_some {k : Nat} {x : Stretch} (h : (stretches s)[k]? = some x) : step s (.beats k) = (s, ⟨(x.beats.length : Nat), [x.beats]⟩) := by
  unfold step
  dsimp only
  rw [h]
theorem step_alone : step s .alone = (s, ok (if (stretches s).length = 1 then 1 else 0)) := rfl
theorem step_times : step s .times = (s, ⟨(s.times.length : Nat), [Sy41.ints s.times]⟩) := rfl
/-- no call leaves what holds of a state -/
theorem step_good (G : GoodS s) (c : Call) : GoodS (step s c).1 := by
  cases c with
  | begins lo hi off =>
    by_cases h : 8 ≤ lo ∧ lo ≤ hi ∧ hi ≤ 1000 ∧ 4 * off < lo
    · rw [step_begins_ok h]
      exact good_begins h
    · rw [step_begins_bad h]
      exact G
  | seen t =>
    by_cases h : 2000 < t
    · rw [step_seen_far h]
      exact G
    · cases h1 : s.times.contains t with
      | true =>
        rw [step_seen_there h h1]
        exact G
      | false =>
        by_cases h2 : 10 ≤ s.times.length
        · rw [step_seen_full h h1 h2]
          exact G
        · cases h3 : (stretches (plus s t)).isEmpty with
          | true =>
            rw [step_seen_none h h1 h2 h3]
            exact G
          | false =>
            rw [step_seen_ok h h1 h2 h3]
            exact ⟨good_plus G.g (by omega) (fun hm => by rw [List.contains_iff_mem.mpr hm] at h1; cases h1) (by omega), by rw [plus_len]; omega⟩
  | drop t =>
    cases h1 : s.times.contains t with
    | true =>
      rw [step_drop_ok h1]
      exact ⟨good_drop G.g t, Nat.le_trans (List.length_filter_le _ _) G.ten⟩
    | false =>
      rw [step_drop_none h1]
      exact G
  | periods => exact G
  | fits p q => exact G
  | could t => exact G
  | window p q => exact G
  | beats k => exact G
  | next p q t => exact G
  | alone => exact G
  | times => exact G
end
end EB

namespace EB
open Sy41
theorem zip_cons {s : St} {x : Stretch} (ht : s.times ≠ []) (hl : x.beats.length = s.times.length) : ∃ t n r, s.times.zip x.beats = (t, n) :: r := by
  cases e : s.times with
  | nil => exact absurd e ht
  | cons t ts =>
    cases e2 : x.beats with
    | nil => rw [e, e2] at hl; cases hl
    | cons n ns => exact ⟨t, n, ts.zip ns, rfl⟩
theorem window_fine {s : St} {x : Stretch} {p : Frac} (hp : 0 < p.d) (ht : s.times ≠ []) (hl : x.beats.length = s.times.length) :
    0 < (window s p x).1.d ∧ (window s p x).1.d ≤ p.d ∧ 0 < (window s p x).2.d ∧ (window s p x).2.d ≤ p.d := by
  obtain ⟨t, n, r, e⟩ := zip_cons ht hl
  rw [window_eq hp e]
  have h1 := runL_fine hp s.off ((t, n) :: r) (lessT ((t : Int) - s.off) n p) ⟨lessT_red hp _ _, lessT_d hp _ _⟩
  have h2 := runM_fine hp s.off ((t, n) :: r) (lessT ((t : Int) + s.off) n p) ⟨lessT_red hp _ _, lessT_d hp _ _⟩
  exact ⟨h1.1.1, h1.2, h2.1.1, h2.2⟩
/-- a period that is told -/
theorem per_fine {p q : Nat} (h : okPer p q) : 0 < (frac (p : Int) q).d ∧ (frac (p : Int) q).d ≤ 1000 ∧ 0 < (frac (p : Int) q).n ∧ (frac (p : Int) q).n ≤ 1000000 := by
  obtain ⟨h1, h2, h3, h4⟩ := h
  have e1 := frac_d_pos (p : Int) (show 0 < q by omega)
  have e2 := frac_d_le (p : Int) (show 0 < q by omega)
  have e3 := frac_pos (n := (p : Int)) (show 0 < q by omega) (by omega)
  have e4 := frac_n_le (n := (p : Int)) (show 0 < q by omega) (by omega)
  refine ⟨e1, by omega, e3, ?_⟩
  have : 1000 * q ≤ 1000000 := by omega
  omega
theorem fine_d {s : St} {x : Stretch} (h : Fine s x) : x.a.d < 1073741824 ∧ x.b.d < 1073741824 := by
  have h1 : x.a.d ≤ 2000 := h.e.ad
  have h2 : x.b.d ≤ 2000 := h.e.bd
  omega
end EB

namespace EB
open Sy41 Sy41Neutral
/-! # Calls from numbers -/
theorem many_nat : ∀ (k : Nat) (xs : List Int) (x : List Nat) (r : List Int), many_ natIn k xs = some (x, r) → xs = Sy41.ints x ++ r ∧ x.length = k
  | 0, xs, x, r, h => by
    have h : (some ([], xs) : Option (List Nat × List Int)) = some (x, r) := h
    cases h
    exact ⟨rfl, rfl⟩
  | k + 1, xs, x, r, h => by
    have h : ((natIn xs).bind fun (y : Nat × List Int) => (many_ natIn k y.2).map fun (z : List Nat × List Int) => (y.1 :: z.1, z.2)) = some (x, r) := h
    cases xs with
    | nil => cases h
    | cons n l =>
      by_cases hn : 0 ≤ n ∧ n < 2 ^ 32
      · have e : natIn (n :: l) = some (n.toNat, l) := if_pos hn
        rw [e, Option.bind_some] at h
        dsimp only at h
        cases q : many_ natIn k l with
        | none => rw [q] at h; cases h
        | some z =>
          rw [q] at h
          obtain ⟨x', r'⟩ := z
          obtain ⟨h1, h2⟩ := many_nat k l x' r' q
          have h : some (n.toNat :: x', r') = some (x, r) := h
          cases h
          refine ⟨?_, by rw [List.length_cons, h2]⟩
          have e2 : ((n.toNat : Nat) : Int) = n := by omega
          show n :: l = ((n.toNat : Nat) : Int) :: (Sy41.ints x' ++ _)
          rw [e2, h1]
      · have e : natIn (n :: l) = none := if_neg hn
        rw [e] at h
        cases h
theorem all_nat {k : Nat} {xs : List Int} {x : List Nat} (h : all_ (some_ k xs) = some x) : xs = Sy41.ints x ∧ x.length = k := by
  unfold all_ some_ at h
  cases q : many_ natIn k xs with
  | none => rw [q] at h; cases h
  | some z =>
    obtain ⟨x', r⟩ := z
    obtain ⟨h1, h2⟩ := many_nat k xs x' r q
    rw [q] at h
    have h : (if r.isEmpty = true then some x' else none) = some x := h
    cases r with
    | nil =>
      have h : some x' = some x := h
      cases h
      rw [List.append_nil] at h1
      exact ⟨h1, h2⟩
    | cons a r => cases h
theorem len0 {x : List Nat} (h : x.length = 0) : x = [] := List.length_eq_zero_iff.mp h
theorem len1 {x : List Nat} (h : x.length = 1) : ∃ a, x = [a] := List.length_eq_one_iff.mp h
theorem len2 {x : List Nat} (h : x.length = 2) : ∃ a b, x = [a, b] := by
  match x, h with
  | [a, b], _ => exact ⟨a, b, rfl⟩
theorem len3 {x : List Nat} (h : x.length = 3) : ∃ a b c, x = [a, b, c] := by
  match x, h with
  | [a, b, c], _ => exact ⟨a, b, c, rfl⟩
/-- how a call's numbers stand -/
inductive CallIs : Int → List Int → Sy41.Call → Prop
  | begins (a b c : Nat) : CallIs 0 [(a : Int), (b : Int), (c : Int)] (.begins a b c)
  | seen (a : Nat) : CallIs 1 [(a : Int)] (.seen a)
  | drop (a : Nat) : CallIs 2 [(a : Int)] (.drop a)
  | periods : CallIs 3 [] .periods
  | fits (a b : Nat) : CallIs 4 [(a : Int), (b : Int)] (.fits a b)
  | could (a : Nat) : CallIs 5 [(a : Int)] (.could a)
  | window (a b : Nat) : CallIs 6 [(a : Int), (b : Int)] (.window a b)
  | beats (a : Nat) : CallIs 7 [(a : Int)] (.beats a)
  | next (a b c : Nat) : CallIs 8 [(a : Int), (b : Int), (c : Int)] (.next a b c)
  | alone : CallIs 9 [] .alone
  | times : CallIs 10 [] .times
theorem map_some {α β : Type} {o : Option α} {f : α → β} {b : β} (h : o.map f = some b) : ∃ a, o = some a ∧ b = f a := by
  cases o with
  | none => cases h
  | some a => exact ⟨a, rfl, (Option.some.inj h).symm⟩
theorem callOf_is {k : Int} {xs : List Int} {c : Sy41.Call} (h : callOf (k :: xs) = some c) : CallIs k xs c := by
  unfold callOf at h
  split at h <;> rename_i e <;> first | (cases h; done) | skip
  all_goals (injection e with e1 e2; subst e1; subst e2; obtain ⟨x, h1, h2⟩ := map_some h; obtain ⟨h3, h4⟩ := all_nat h1; subst h3; subst h2)
  · obtain ⟨a, b, c, rfl⟩ := len3 h4
    exact .begins a b c
  · obtain ⟨a, rfl⟩ := len1 h4
    exact .seen a
  · obtain ⟨a, rfl⟩ := len1 h4
    exact .drop a
  · obtain rfl := len0 h4
    exact .periods
  · obtain ⟨a, b, rfl⟩ := len2 h4
    exact .fits a b
  · obtain ⟨a, rfl⟩ := len1 h4
    exact .could a
  · obtain ⟨a, b, rfl⟩ := len2 h4
    exact .window a b
  · obtain ⟨a, rfl⟩ := len1 h4
    exact .beats a
  · obtain ⟨a, b, c, rfl⟩ := len3 h4
    exact .next a b c
  · obtain rfl := len0 h4
    exact .alone
  · obtain rfl := len0 h4
    exact .times
/-- how many numbers a call has -/
def told : List Int := [3, 1, 1, 0, 2, 1, 2, 1, 3, 0, 0]
theorem shape_told {p : Int} {n k : Nat} (h : PySy41.shape p = some (n, k)) : k = 0 ∧ 0 ≤ p ∧ p ≤ 10 ∧ told[p.toNat]? = some (n : Int) := by
  unfold PySy41.shape at h
  repeat' split at h
  all_goals first
    | (cases h; done)
    | (rename_i e; subst e; cases h; exact ⟨rfl, by decide, by decide, rfl⟩)
theorem whole_one (c : List Int) : PySy41.whole [c] = [c] := by
  unfold PySy41.whole
  split <;> first | rfl | (rename_i e; cases e; rfl)
/-- what is told of the calls to come -/
def toldOf (s : St) (cs : List (List (List Int))) : List Int := PyFlat.told (PyFlat.played (fun s c => Sy41Neutral.step s (c.headD [])) s (cs.map PySy41.whole))
theorem toldOf_nil (s : St) : toldOf s [] = [] := rfl
theorem toldOf_cons (s : St) (c : List Int) (cs : List (List (List Int))) : toldOf s ([c] :: cs) = ((Sy41Neutral.step s c).2.length : Int) :: ((Sy41Neutral.step s c).2 ++ toldOf (Sy41Neutral.step s c).1 cs) := by
  unfold toldOf
  rw [List.map_cons, whole_one]
  show PyFlat.told ((Sy41Neutral.step s c).2 :: _) = _
  unfold PyFlat.told
  rw [List.flatMap_cons]
  rfl
theorem nstep {s : St} {p : Int} {xs : List Int} {c : Sy41.Call} (h : callOf (p :: xs) = some c) : Sy41Neutral.step s (p :: xs) = ((Sy41.step s c).1, out (Sy41.step s c).2) := by
  unfold Sy41Neutral.step
  rw [h]
/-- the calls to come, from what is left of the numbers -/
structure Left (rest : List Int) (cs : List (List (List Int))) : Prop where
  ex : ∃ f, PyFlat.calls PySy41.shape f rest = some cs
  ok : ∀ c ∈ cs, (callOf ((PySy41.whole c).headD [])).isSome = true
theorem left_nil {cs : List (List (List Int))} (h : Left [] cs) : cs = [] := by
  obtain ⟨⟨f, e⟩, _⟩ := h
  cases f with
  | zero => exact (Option.some.inj e).symm
  | succ f => exact (Option.some.inj e).symm
theorem left_cons {p : Int} {r : List Int} {cs : List (List (List Int))} (h : Left (p :: r) cs) : ∃ (n : Nat) (c : Sy41.Call) (cs' : List (List (List Int))), 0 ≤ p ∧ p ≤ 10 ∧ told[p.toNat]? = some (n : Int) ∧ n ≤ r.length ∧ callOf (p :: r.take n) = some c ∧ cs = [p :: r.take n] :: cs' ∧ Left (r.drop n) cs' := by
  obtain ⟨⟨f, e⟩, ok⟩ := h
  cases f with
  | zero => cases e
  | succ f =>
    have e : (match PyFlat.call PySy41.shape (p :: r) with
      | none => none
      | some (c, t) => match PyFlat.calls PySy41.shape f t with
        | none => none
        | some cs => some (c :: cs)) = some cs := e
    cases q : PySy41.shape p with
    | none =>
      have : PyFlat.call PySy41.shape (p :: r) = none := by
        unfold PyFlat.call
        dsimp only
        rw [q]
      rw [this] at e
      cases e
    | some nk =>
      obtain ⟨n, k⟩ := nk
      obtain ⟨k0, p0, p10, ht⟩ := shape_told q
      subst k0
      have hc : PyFlat.call PySy41.shape (p :: r) = if r.length < n then none else some ([p :: r.take n], r.drop n) := by
        unfold PyFlat.call
        dsimp only
        rw [q]
        rfl
      rw [hc] at e
      by_cases hl : r.length < n
      · rw [if_pos hl] at e
        cases e
      · rw [if_neg hl] at e
        dsimp only at e
        cases q2 : PyFlat.calls PySy41.shape f (r.drop n) with
        | none => rw [q2] at e; cases e
        | some cs' =>
          rw [q2] at e
          have e : some ([p :: r.take n] :: cs') = some cs := e
          cases e
          have h1 := ok _ List.mem_cons_self
          rw [whole_one] at h1
          have h1 : (callOf (p :: r.take n)).isSome = true := h1
          obtain ⟨c, hc2⟩ := Option.isSome_iff_exists.mp h1
          exact ⟨n, c, cs', p0, p10, ht, by omega, hc2, rfl, ⟨f, q2⟩, fun c hc => ok c (List.mem_cons_of_mem _ hc)⟩
/-- what is asked, at the start -/
theorem left_start {l : List Int} (h : PySy41.answers_asked l = true) : ∃ cs, Left l cs ∧ PySy41.answers l = toldOf Sy41.init cs ∧ (PySy41.answers l).length ≤ 10000000 := by
  unfold PySy41.answers_asked at h
  cases q : PyFlat.calls PySy41.shape l.length l with
  | none => rw [q] at h; cases h
  | some cs =>
    rw [q] at h
    simp only [Bool.and_eq_true] at h
    obtain ⟨⟨⟨⟨h1, h2⟩, h3⟩, h4⟩, h5⟩ := h
    refine ⟨cs, ⟨⟨_, q⟩, fun c hc => ?_⟩, ?_, ?_⟩
    · unfold Sy41Neutral.asked at h4
      simp only [Bool.and_eq_true, List.all_eq_true] at h4
      have := h4.1 ((PySy41.whole c).headD []) (List.mem_map.mpr ⟨PySy41.whole c, List.mem_map.mpr ⟨c, hc, rfl⟩, rfl⟩)
      exact this
    · unfold PySy41.answers PySy41.calls
      rw [q]
      rfl
    · unfold PyFlat.short at h5
      exact of_decide_eq_true h5
end EB

/-! # The walk: the text by places, what stands in the heap -/
namespace EW
open PySem PySem.Spec PyProof.Rows L2
open Sy41 (Frac Stretch)
open EB (Red)
def top (i : Nat) : Stmt := PySem.Challenge.pw_evenbeats_s01_answers.main.body.getD i (.Pass ⟨0, 0, 0, 0⟩)
abbrev sFraction : Stmt := top 1
abbrev sIsLess : Stmt := top 2
abbrev sLesser : Stmt := top 3
abbrev sGreater : Stmt := top 4
abbrev sLessTimes : Stmt := top 5
abbrev sPlusTimes : Stmt := top 6
abbrev sRoundedUp : Stmt := top 7
abbrev sNarrowed : Stmt := top 9
abbrev sWithBeat : Stmt := top 10
abbrev sBeatsFor : Stmt := top 11
abbrev sStretchesOf : Stmt := top 12
abbrev sInOrder : Stmt := top 13
abbrev sBeatsBy : Stmt := top 14
abbrev sWindowOf : Stmt := top 15
abbrev sRefInit : Stmt := inClass (top 29) 0
abbrev sWant : Stmt := top 30
abbrev sCounted : Stmt := top 31
abbrev bm (j : Nat) : Stmt := inClass (top 32) j
abbrev sAnswers : Stmt := top 33

/-- a def that may be called by its name -/
def Cal (P : Program) (w : World) (K : PySem.W.Frag) (mg : Str → Option Value) (base : Heap) (CX : CXT) (k : Nat) (x : Str) (ps : List Str) (sp : Sp) : Prop :=
  ∃ f fd, FnOk P w K mg base CX k f fd ps sp ∧ mg x = some (.ref f) ∧ PySem.W.keepIn K (.ref f) = true ∧ Binds K fd ps []
/-- a method that may be called by its name -/
def CalM (P : Program) (w : World) (K : PySem.W.Frag) (mg : Str → Option Value) (base : Heap) (CX : CXT) (k : Nat) (C : Addr) (m : Str) (ps : List Str) (sp : Sp) : Prop :=
  ∃ f fd, FnOk P w K mg base CX k f fd ps sp ∧ Meth K C m f ∧ Binds K fd ps []

/-! ### heaps -/
theorem same_upd {H : Hp} {p : Addr} {o : HO} (h : H p = none) : Same H (upd H p o) := fun b x e => by
  rw [upd_ne (ne_of_none e h)]
  exact e
/-- a fraction's tuple -/
def FrA (H : Hp) (p : Addr) (f : Frac) : Prop := H p = some (.tup [.int f.n, .int (f.d : Nat)])
/-- a stretch's tuple; its list of beats is none of N -/
def StA (N : Addr → Prop) (H : Hp) (q : Addr) (x : Stretch) : Prop :=
  ∃ pa pb pl, H q = some (.tup [.ref pa, .ref pb, .ref pl]) ∧ FrA H pa x.a ∧ FrA H pb x.b ∧ H pl = some (.lst (x.beats.map V.int)) ∧ ¬ N pl
/-- stretches in a row -/
def StAs (N : Addr → Prop) (H : Hp) (qs : List Addr) (l : List Stretch) : Prop := Paired (StA N H) qs l
/-- a list of stretches -/
def StL (N : Addr → Prop) (H : Hp) (r : Addr) (l : List Stretch) : Prop := ∃ qs : List Addr, H r = some (.lst (qs.map V.ref)) ∧ ¬ N r ∧ StAs N H qs l
/-- what may change: lists of N, nothing else that was tracked, but instances -/
structure Kp (N : Addr → Prop) (H H' : Hp) : Prop where
  tp : ∀ a xs, H a = some (.tup xs) → H' a = some (.tup xs)
  ls : ∀ a xs, ¬ N a → H a = some (.lst xs) → H' a = some (.lst xs)
section
variable {N N' : Addr → Prop} {H H' H'' : Hp} {p q r : Addr} {f : Frac} {x : Stretch} {l : List Stretch}
theorem Kp.of (s : Same H H') : Kp N H H' := ⟨fun a xs e => s _ _ e, fun a xs _ e => s _ _ e⟩
theorem Kp.trans (s : Kp N H H') (t : Kp N H' H'') : Kp N H H'' := ⟨fun a xs e => t.tp _ _ (s.tp _ _ e), fun a xs n e => t.ls _ _ n (s.ls _ _ n e)⟩
theorem Kp.list {xs ys : List V} (hN : N r) (h : H r = some (.lst xs)) : Kp N H (upd H r (.lst ys)) :=
  ⟨fun a zs e => by rw [upd_ne (ne_of e h (by intro z; cases z))]; exact e, fun a zs n e => by rw [upd_ne (show a ≠ r from fun z => n (z ▸ hN))]; exact e⟩
theorem Kp.ins {C dx : Addr} {fs gs : List (Str × V)} (h : H r = some (.ins C dx fs)) : Kp N H (upd H r (.ins C dx gs)) :=
  ⟨fun a zs e => by rw [upd_ne (ne_of e h (by intro z; cases z))]; exact e, fun a zs n e => by rw [upd_ne (ne_of e h (by intro z; cases z))]; exact e⟩
theorem FrA.kp (s : Kp N H H') (h : FrA H p f) : FrA H' p f := s.tp _ _ h
theorem StA.kp (s : Kp N H H') (h : StA N H q x) : StA N H' q x := by
  obtain ⟨pa, pb, pl, h1, h2, h3, h4, h5⟩ := h
  exact ⟨pa, pb, pl, s.tp _ _ h1, h2.kp s, h3.kp s, s.ls _ _ h5 h4, h5⟩
theorem StAs.kp (s : Kp N H H') {qs : List Addr} (h : StAs N H qs l) : StAs N H' qs l := Paired.mapP h fun _ _ h => h.kp s
theorem StL.kp (s : Kp N H H') (h : StL N H r l) : StL N H' r l := by
  obtain ⟨qs, h1, h2, h3⟩ := h
  exact ⟨qs, s.ls _ _ h2 h1, h2, h3.kp s⟩
theorem FrA.same (s : Same H H') (h : FrA H p f) : FrA H' p f := s _ _ h
theorem StA.same (s : Same H H') (h : StA N H q x) : StA N H' q x := h.kp (Kp.of s)
theorem StAs.same (s : Same H H') {qs : List Addr} (h : StAs N H qs l) : StAs N H' qs l := StAs.kp (Kp.of s) h
theorem StL.same (s : Same H H') (h : StL N H r l) : StL N H' r l := h.kp (Kp.of s)
theorem StA.imp (h : StA N H q x) (i : ∀ a xs, H a = some (.lst xs) → N' a → N a) : StA N' H q x := by
  obtain ⟨pa, pb, pl, h1, h2, h3, h4, h5⟩ := h
  exact ⟨pa, pb, pl, h1, h2, h3, h4, fun z => h5 (i _ _ h4 z)⟩
theorem StL.imp (h : StL N H r l) (i : ∀ a xs, H a = some (.lst xs) → N' a → N a) : StL N' H r l := by
  obtain ⟨qs, h1, h2, h3⟩ := h
  exact ⟨qs, h1, fun z => h2 (i _ _ h1 z), Paired.mapP h3 fun _ _ h => h.imp i⟩
theorem paired_get {α β : Type} {F : α → β → Prop} : ∀ {l : List α} {m : List β} {i : Nat} {b : β}, Paired F l m → m[i]? = some b → ∃ a, l[i]? = some a ∧ F a b
  | _, _, _, _, .nil, e => by simp at e
  | _, _, 0, _, .cons r _, e => by simp at e; subst e; exact ⟨_, rfl, r⟩
  | _, _, i + 1, b, .cons r t, e => by
    obtain ⟨a, h1, h2⟩ := paired_get (i := i) (b := b) t (by simpa using e)
    exact ⟨a, by simpa using h1, h2⟩
theorem paired_getL {α β : Type} {F : α → β → Prop} : ∀ {l : List α} {m : List β} {i : Nat} {a : α}, Paired F l m → l[i]? = some a → ∃ b, m[i]? = some b ∧ F a b
  | _, _, _, _, .nil, e => by simp at e
  | _, _, 0, _, .cons r _, e => by simp at e; subst e; exact ⟨_, rfl, r⟩
  | _, _, i + 1, b, .cons r t, e => by
    obtain ⟨a, h1, h2⟩ := paired_getL (i := i) (a := b) t (by simpa using e)
    exact ⟨a, by simpa using h1, h2⟩
theorem paired_append {α β : Type} {F : α → β → Prop} : ∀ {l l' : List α} {m m' : List β}, Paired F l m → Paired F l' m' → Paired F (l ++ l') (m ++ m')
  | _, _, _, _, .nil, s => s
  | _, _, _, _, .cons r t, s => .cons r (paired_append t s)
theorem paired_take {α β : Type} {F : α → β → Prop} (n : Nat) : ∀ {l : List α} {m : List β}, Paired F l m → Paired F (l.take n) (m.take n) := by
  induction n with
  | zero => intro l m _; exact .nil
  | succ n ih =>
    intro l m h
    cases h with
    | nil => exact .nil
    | cons r t => exact .cons r (ih t)
theorem paired_drop {α β : Type} {F : α → β → Prop} (n : Nat) : ∀ {l : List α} {m : List β}, Paired F l m → Paired F (l.drop n) (m.drop n) := by
  induction n with
  | zero => intro l m h; exact h
  | succ n ih =>
    intro l m h
    cases h with
    | nil => exact .nil
    | cons r t => exact ih t
end
theorem int_get {ns : List Int} {i : Nat} {y : V} (h : (ns.map V.int)[i]? = some y) : ∃ z, ns[i]? = some z ∧ y = .int z := by
  rw [List.getElem?_map] at h
  cases e : ns[i]? with
  | none => rw [e] at h; cases h
  | some z => rw [e] at h; exact ⟨z, rfl, (Option.some.inj h).symm⟩
theorem ref_get {qs : List Addr} {i : Nat} {y : V} (h : (qs.map V.ref)[i]? = some y) : ∃ q, qs[i]? = some q ∧ y = .ref q := by
  rw [List.getElem?_map] at h
  cases e : qs[i]? with
  | none => rw [e] at h; cases h
  | some z => rw [e] at h; exact ⟨z, rfl, (Option.some.inj h).symm⟩
theorem map_get {α β : Type} {f : α → β} {l : List α} {i : Nat} {a : α} (h : l[i]? = some a) : (l.map f)[i]? = some (f a) := by
  rw [List.getElem?_map, h]
  rfl
end EW

namespace EW
open PySem PySem.Spec PyProof.Rows L2
open Sy41 (Frac Stretch)
open EB (Red)
section
variable {P : Program} {w : World} {K : PySem.W.Frag} {mg : Str → Option Value} {base : Heap}
/-! ### fraction(above, below) -/
theorem scFraction : FnScope ["above", "below", "one", "other"] ["above", "below"] (defScope sFraction) := ⟨rfl, rfl, rfl, by decide +kernel, rfl, by decide +kernel, by decide +kernel⟩
def spFraction : Sp := fun vs H Q _ => ∃ (n : Int) (d : Nat), vs = [.int n, .int (d : Nat)] ∧ 0 < d ∧ d < 1073741824 ∧
  ∀ p H', H p = none → Same H H' → FrA H' p (Sy41.frac n d) → Q (.ref p) H'
theorem ite_ne {A B : Prop} {i j : Int} (h1 : i ≠ j → A) (h2 : i = j → B) : if (!decide (V.int i = V.int j)) = true then A else B := by
  by_cases h : i = j
  · subst h
    rw [decide_eq_true rfl]
    exact iteF (h2 rfl)
  · rw [decide_eq_false (fun z => h (V.int.inj z))]
    exact iteT (h1 h)
theorem ite_eq {A B : Prop} {i j : Int} (h1 : i = j → A) (h2 : i ≠ j → B) : if (decide (V.int i = V.int j)) = true then A else B := by
  by_cases h : i = j
  · subst h
    rw [decide_eq_true rfl]
    exact iteT (h1 rfl)
  · rw [decide_eq_false (fun z => h (V.int.inj z))]
    exact iteF (h2 h)
theorem ite_dec {A B c : Prop} [Decidable c] (h1 : c → A) (h2 : ¬ c → B) : if (decide c) = true then A else B := by
  by_cases h : c
  · rw [decide_eq_true h]
    exact iteT (h1 h)
  · rw [decide_eq_false h]
    exact iteF (h2 h)
theorem ok_fraction {f : Addr} {fd : FuncData} (F : Fun K "fraction" "fraction" sFraction f fd) (ma : mg "abs" = none) : FnOk P w K mg base CX0 1 f fd ["above", "below"] spFraction := by
  refine F.ok scFraction (fun vs H Q E h => ?_) (fun cdv A outer s H vs Q E hr h => ?_)
  · obtain ⟨n, d, rfl, _⟩ := h
    rfl
  · obtain ⟨n, d, rfl, hd, hd2, k⟩ := h
    refine ⟨_, pss_cons (ps_par (i := 2) (j := 3) rfl scFraction.nd rfl rfl (by decide) rfl rfl (pa_cons (pe_callB call_abs (by rfl) ma (by decide +kernel) (pa_cons (pv 0) pa_nil)) (pa_cons (pv 1) pa_nil)) (by rfl))
      (pss_cons (ps_while PassesOwn.never (pt_cmpR op_ne (pv 3) pe_int (nomark _)) (pss_one (ps_par (i := 2) (j := 3) rfl scFraction.nd rfl rfl (by decide) rfl rfl (pa_cons (pv 3) (pa_cons (pe_op op_mod (pv 2) (pv 3)) pa_nil)) (by rfl))))
      (pss_one (ps_ret (pe_tup (pa_cons (pe_op op_fdiv (pv 0) (pv 2)) (pa_cons (pe_op op_fdiv (pv 1) (pv 2)) pa_nil)))))), ?_⟩
    have ea : (if n < 0 then -n else n) = ((n.natAbs : Nat) : Int) := by split <;> omega
    have hg := EB.gcd_pos' n hd
    refine ⟨_, rfl, n, rfl, _, rfl, _, _, rfl, fun m σ H' => H' = H ∧ ∃ a : Nat, σ = [some (.int n), some (.int (d : Nat)), some (.int (a : Nat)), some (.int (m : Nat))] ∧ Nat.gcd a m = Nat.gcd n.natAbs d, ⟨d, rfl, n.natAbs, ?_, rfl⟩, ?_⟩
    · rw [← ea]
      rfl
    · rintro m σ H' ⟨rfl, a, rfl, e⟩
      refine ⟨_, rfl, rfl, _, rfl, ite_ne (fun hm => ?_) (fun hm => ?_)⟩
      · have hm : m ≠ 0 := by omega
        refine ⟨fun σ' H'' => H'' = H' ∧ ∃ a' m' : Nat, σ' = [some (.int n), some (.int (d : Nat)), some (.int (a' : Nat)), some (.int (m' : Nat))] ∧ Nat.gcd a' m' = Nat.gcd n.natAbs d ∧ m' < m, ?_, ?_⟩
        · rintro σ' H'' ⟨e1, a', m', e2, e3, e4⟩
          exact ⟨m', e4, e1, a', e2, e3⟩
        · refine ⟨_, rfl, _, rfl, _, rfl, _, _, rfl, rfl, (by show (0 : Int) < (m : Nat); omega), _, _, rfl, rfl, m, a % m, ?_, ?_, Nat.mod_lt _ (by omega)⟩
          · rw [Int.natCast_emod]
            rfl
          · rw [EB.gcd_step, e]
      · have hm : m = 0 := by omega
        subst hm
        rw [Nat.gcd_zero_right] at e
        subst e
        have hle : Nat.gcd n.natAbs d ≤ d := Nat.gcd_le_right _ hd
        have hc : CDiv n ((Nat.gcd n.natAbs d : Nat) : Int) := ⟨by omega, by omega⟩
        have hc' : CDiv (d : Int) ((Nat.gcd n.natAbs d : Nat) : Int) := ⟨by omega, by omega⟩
        refine ⟨_, rfl, _, rfl, _, _, rfl, rfl, hc, _, rfl, _, rfl, _, _, rfl, rfl, hc', (by show 2 ≤ sizeLine; decide), fun p hp => ?_⟩
        refine k p _ hp (same_upd hp) ?_
        show upd _ _ _ _ = _
        rw [upd_same, EB.frac_def hd, Int.natCast_ediv]
/-! ### is_less(one, other), lesser, greater -/
theorem scIsLess : FnScope ["one", "other"] ["one", "other"] (defScope sIsLess) := ⟨rfl, rfl, rfl, by decide +kernel, rfl, by decide +kernel, by decide +kernel⟩
def spIsLess : Sp := fun vs H Q _ => ∃ (p q : Addr) (a b : Frac), vs = [.ref p, .ref q] ∧ FrA H p a ∧ FrA H q b ∧ a.d < 1073741824 ∧ b.d < 1073741824 ∧ Q (.bl (EB.isLess a b)) H
theorem ok_isless {f : Addr} {fd : FuncData} (F : Fun K "is_less" "is_less" sIsLess f fd) : FnOk P w K mg base CX0 1 f fd ["one", "other"] spIsLess := by
  refine F.ok scIsLess (fun vs H Q E h => ?_) (fun cdv A outer s H vs Q E hr h => ?_)
  · obtain ⟨p, q, a, b, rfl, _⟩ := h
    rfl
  · obtain ⟨p, q, a, b, rfl, ha, hb, da, db, k⟩ := h
    refine ⟨_, pss_one (ps_ret (pe_cmpR op_lt (pe_op op_mul (pe_ix ix_tup (pv 0) pe_int (fun _ _ => rfl)) (pe_ix ix_tup (pv 1) pe_int (fun _ _ => rfl))) (pe_op op_mul (pe_ix ix_tup (pv 1) pe_int (fun _ _ => rfl)) (pe_ix ix_tup (pv 0) pe_int (fun _ _ => rfl))) (nomark _))), ?_⟩
    have db' : CMul a.n (b.d : Nat) := .inr ⟨by omega, by omega⟩
    have da' : CMul b.n (a.d : Nat) := .inr ⟨by omega, by omega⟩
    exact ⟨_, rfl, p, _, 0, _, rfl, rfl, SqT.of ha, rfl, _, rfl, q, _, 1, _, rfl, rfl, SqT.of hb, rfl, _, _, rfl, rfl, db',
      _, rfl, q, _, 0, _, rfl, rfl, SqT.of hb, rfl, _, rfl, p, _, 1, _, rfl, rfl, SqT.of ha, rfl, _, _, rfl, rfl, da', _, _, rfl, rfl, k⟩
theorem scLesser : FnScope ["one", "other"] ["one", "other"] (defScope sLesser) := ⟨rfl, rfl, rfl, by decide +kernel, rfl, by decide +kernel, by decide +kernel⟩
/-- the heap stays as it is: one of the two is handed back -/
def spLesser : Sp := fun vs H Q _ => ∃ (p q : Addr) (a b : Frac), vs = [.ref p, .ref q] ∧ FrA H p a ∧ FrA H q b ∧ a.d < 1073741824 ∧ b.d < 1073741824 ∧ ∀ r, FrA H r (EB.lesser a b) → Q (.ref r) H
def spGreater : Sp := fun vs H Q _ => ∃ (p q : Addr) (a b : Frac), vs = [.ref p, .ref q] ∧ FrA H p a ∧ FrA H q b ∧ a.d < 1073741824 ∧ b.d < 1073741824 ∧ ∀ r, FrA H r (EB.greater a b) → Q (.ref r) H
theorem ok_lesser {f : Addr} {fd : FuncData} (F : Fun K "lesser" "lesser" sLesser f fd) (cl : Cal P w K mg base CX0 1 "is_less" ["one", "other"] spIsLess) : FnOk P w K mg base CX0 2 f fd ["one", "other"] spLesser := by
  obtain ⟨f1, fd1, G1, m1, k1, b1⟩ := cl
  refine F.ok scLesser (fun vs H Q E h => ?_) (fun cdv A outer s H vs Q E hr h => ?_)
  · obtain ⟨p, q, a, b, rfl, _⟩ := h
    rfl
  · obtain ⟨p, q, a, b, rfl, ha, hb, da, db, k⟩ := h
    refine ⟨_, pss_cons (ps_if (pt_val (pe_call G1 hr (by rfl) m1 k1 b1 .nil pass0 (pa_cons (pv 1) (pa_cons (pv 0) pa_nil)))) (pss_one (ps_ret (pv 1))) pss_nil) (pss_one (ps_ret (pv 0))), ?_⟩
    refine ⟨_, rfl, _, rfl, q, p, b, a, rfl, hb, ha, db, da, _, rfl, ?_⟩
    unfold EB.lesser at k
    cases e : EB.isLess b a with
    | true =>
      rw [e] at k
      exact iteT ⟨_, rfl, k q hb⟩
    | false =>
      rw [e] at k
      exact iteF ⟨_, rfl, k p ha⟩
theorem scGreater : FnScope ["one", "other"] ["one", "other"] (defScope sGreater) := ⟨rfl, rfl, rfl, by decide +kernel, rfl, by decide +kernel, by decide +kernel⟩
theorem ok_greater {f : Addr} {fd : FuncData} (F : Fun K "greater" "greater" sGreater f fd) (cl : Cal P w K mg base CX0 1 "is_less" ["one", "other"] spIsLess) : FnOk P w K mg base CX0 2 f fd ["one", "other"] spGreater := by
  obtain ⟨f1, fd1, G1, m1, k1, b1⟩ := cl
  refine F.ok scGreater (fun vs H Q E h => ?_) (fun cdv A outer s H vs Q E hr h => ?_)
  · obtain ⟨p, q, a, b, rfl, _⟩ := h
    rfl
  · obtain ⟨p, q, a, b, rfl, ha, hb, da, db, k⟩ := h
    refine ⟨_, pss_cons (ps_if (pt_val (pe_call G1 hr (by rfl) m1 k1 b1 .nil pass0 (pa_cons (pv 0) (pa_cons (pv 1) pa_nil)))) (pss_one (ps_ret (pv 1))) pss_nil) (pss_one (ps_ret (pv 0))), ?_⟩
    refine ⟨_, rfl, _, rfl, p, q, a, b, rfl, ha, hb, da, db, _, rfl, ?_⟩
    unfold EB.greater at k
    cases e : EB.isLess a b with
    | true =>
      rw [e] at k
      exact iteT ⟨_, rfl, k q hb⟩
    | false =>
      rw [e] at k
      exact iteF ⟨_, rfl, k p ha⟩
end
end EW

namespace EW
open PySem PySem.Spec PyProof.Rows L2
open Sy41 (Frac Stretch)
open EB (Red)
section
variable {P : Program} {w : World} {K : PySem.W.Frag} {mg : Str → Option Value} {base : Heap}
/-! ### less_times, plus_times, rounded_up -/
def B64 (i : Int) : Prop := -(2 ^ 64) < i ∧ i < 2 ^ 64
theorem scLessTimes : FnScope ["number", "many", "one"] ["number", "many", "one"] (defScope sLessTimes) := ⟨rfl, rfl, rfl, by decide +kernel, rfl, by decide +kernel, by decide +kernel⟩
def spLessTimes : Sp := fun vs H Q _ => ∃ (t n : Int) (p : Addr) (a : Frac), vs = [.int t, .int n, .ref p] ∧ FrA H p a ∧ 0 < a.d ∧ a.d < 1073741824 ∧ B64 a.n ∧
  ∀ q H', H q = none → Same H H' → FrA H' q (EB.lessT t n a) → Q (.ref q) H'
theorem ok_less_times {f : Addr} {fd : FuncData} (F : Fun K "less_times" "less_times" sLessTimes f fd) (c1 : Cal P w K mg base CX0 1 "fraction" ["above", "below"] spFraction) : FnOk P w K mg base CX0 2 f fd ["number", "many", "one"] spLessTimes := by
  obtain ⟨f1, fd1, G1, m1, k1, b1⟩ := c1
  refine F.ok scLessTimes (fun vs H Q E h => ?_) (fun cdv A outer s H vs Q E hr h => ?_)
  · obtain ⟨t, n, p, a, rfl, _⟩ := h
    rfl
  · obtain ⟨t, n, p, a, rfl, ha, d0, d1, hn, k⟩ := h
    refine ⟨_, pss_one (ps_ret (pe_call G1 hr (by rfl) m1 k1 b1 .nil pass0 (pa_cons (pe_op op_sub (pe_op op_mul (pv 0) (pe_ix ix_tup (pv 2) pe_int (fun _ _ => rfl))) (pe_op op_mul (pv 1) (pe_ix ix_tup (pv 2) pe_int (fun _ _ => rfl)))) (pa_cons (pe_ix ix_tup (pv 2) pe_int (fun _ _ => rfl)) pa_nil)))), ?_⟩
    have e1 : CMul t (a.d : Nat) := .inr ⟨by omega, by omega⟩
    have e2 : CMul n a.n := .inr hn
    exact ⟨_, rfl, _, rfl, p, _, 1, _, rfl, rfl, SqT.of ha, rfl, _, _, rfl, rfl, e1, _, rfl, _, rfl, p, _, 0, _, rfl, rfl, SqT.of ha, rfl, _, _, rfl, rfl, e2, _, _, rfl, rfl,
      _, rfl, p, _, 1, _, rfl, rfl, SqT.of ha, rfl, _, _, rfl, d0, d1, k⟩
theorem scPlusTimes : FnScope ["start", "many", "one"] ["start", "many", "one"] (defScope sPlusTimes) := ⟨rfl, rfl, rfl, by decide +kernel, rfl, by decide +kernel, by decide +kernel⟩
def spPlusTimes : Sp := fun vs H Q _ => ∃ (n : Int) (p q : Addr) (s a : Frac), vs = [.ref p, .int n, .ref q] ∧ FrA H p s ∧ FrA H q a ∧ 0 < s.d ∧ 0 < a.d ∧ s.d < 1073741824 ∧ a.d < 1073741824 ∧ s.d * a.d < 1073741824 ∧ B64 a.n ∧
  ∀ r H', H r = none → Same H H' → FrA H' r (EB.plusT s n a) → Q (.ref r) H'
theorem ok_plus_times {f : Addr} {fd : FuncData} (F : Fun K "plus_times" "plus_times" sPlusTimes f fd) (c1 : Cal P w K mg base CX0 1 "fraction" ["above", "below"] spFraction) : FnOk P w K mg base CX0 2 f fd ["start", "many", "one"] spPlusTimes := by
  obtain ⟨f1, fd1, G1, m1, k1, b1⟩ := c1
  refine F.ok scPlusTimes (fun vs H Q E h => ?_) (fun cdv A outer s H vs Q E hr h => ?_)
  · obtain ⟨n, p, q, s, a, rfl, _⟩ := h
    rfl
  · obtain ⟨n, p, q, s, a, rfl, hs, ha, s0, a0, s1, a1, sa, hn, k⟩ := h
    refine ⟨_, pss_one (ps_ret (pe_call G1 hr (by rfl) m1 k1 b1 .nil pass0 (pa_cons (pe_op op_add (pe_op op_mul (pe_ix ix_tup (pv 0) pe_int (fun _ _ => rfl)) (pe_ix ix_tup (pv 2) pe_int (fun _ _ => rfl)))
      (pe_op op_mul (pe_op op_mul (pv 1) (pe_ix ix_tup (pv 2) pe_int (fun _ _ => rfl))) (pe_ix ix_tup (pv 0) pe_int (fun _ _ => rfl)))) (pa_cons (pe_op op_mul (pe_ix ix_tup (pv 0) pe_int (fun _ _ => rfl)) (pe_ix ix_tup (pv 2) pe_int (fun _ _ => rfl))) pa_nil)))), ?_⟩
    have e1 : CMul s.n (a.d : Nat) := .inr ⟨by omega, by omega⟩
    have e2 : CMul n a.n := .inr hn
    have e3 : CMul (n * a.n) (s.d : Nat) := .inr ⟨by omega, by omega⟩
    have e4 : CMul (s.d : Nat) (a.d : Nat) := .inr ⟨by omega, by omega⟩
    exact ⟨_, rfl, p, _, 0, _, rfl, rfl, SqT.of hs, rfl, _, rfl, q, _, 1, _, rfl, rfl, SqT.of ha, rfl, _, _, rfl, rfl, e1,
      _, rfl, _, rfl, q, _, 0, _, rfl, rfl, SqT.of ha, rfl, _, _, rfl, rfl, e2, _, rfl, p, _, 1, _, rfl, rfl, SqT.of hs, rfl, _, _, rfl, rfl, e3, _, _, rfl, rfl,
      _, rfl, p, _, 1, _, rfl, rfl, SqT.of hs, rfl, _, rfl, q, _, 1, _, rfl, rfl, SqT.of ha, rfl, _, _, rfl, rfl, e4, _, s.d * a.d, rfl, Nat.mul_pos s0 a0, sa, k⟩
theorem scRoundedUp : FnScope ["above", "below"] ["above", "below"] (defScope sRoundedUp) := ⟨rfl, rfl, rfl, by decide +kernel, rfl, by decide +kernel, by decide +kernel⟩
def spRoundedUp : Sp := fun vs H Q _ => ∃ (a b : Int), vs = [.int a, .int b] ∧ 0 < b ∧ b < 1073741824 ∧ Q (.int (EB.ceilDiv a b)) H
theorem ok_rounded_up {f : Addr} {fd : FuncData} (F : Fun K "rounded_up" "rounded_up" sRoundedUp f fd) : FnOk P w K mg base CX0 1 f fd ["above", "below"] spRoundedUp := by
  refine F.ok scRoundedUp (fun vs H Q E h => ?_) (fun cdv A outer s H vs Q E hr h => ?_)
  · obtain ⟨a, b, rfl, _⟩ := h
    rfl
  · obtain ⟨a, b, rfl, h0, h1, k⟩ := h
    refine ⟨_, pss_one (ps_ret (pe_op op_sub pe_int (pe_op op_fdiv (pe_op op_sub pe_int (pv 0)) (pv 1)))), ?_⟩
    rw [← EB.ceil_prog] at k
    exact ⟨_, rfl, _, _, rfl, rfl, _, rfl, _, _, rfl, rfl, ⟨h0, h1⟩, _, _, rfl, rfl, k⟩
/-! ### narrowed(low, high, apart, many, off) -/
theorem scNarrowed : FnScope ["low", "high", "apart", "many", "off"] ["low", "high", "apart", "many", "off"] (defScope sNarrowed) := ⟨rfl, rfl, rfl, by decide +kernel, rfl, by decide +kernel, by decide +kernel⟩
def spNarrowed : Sp := fun vs H Q _ => ∃ (p q : Addr) (a b : Frac) (gap off : Nat) (m : Int), vs = [.ref p, .ref q, .int (gap : Nat), .int m, .int (off : Nat)] ∧ FrA H p a ∧ FrA H q b ∧ Red a ∧ a.d < 1073741824 ∧ b.d < 1073741824 ∧ 0 ≤ m ∧ m < 1073741824 ∧
  (Sy41.cut off (a, b) gap m = none → ∀ H', Same H H' → Q .non H') ∧
  (∀ z, Sy41.cut off (a, b) gap m = some z → ∀ H' t pa pb, Same H H' → H t = none → H' t = some (.tup [.ref pa, .ref pb]) → FrA H' pa z.1 → FrA H' pb z.2 → Q (.ref t) H')
theorem ok_narrowed {f : Addr} {fd : FuncData} (F : Fun K "narrowed" "narrowed" sNarrowed f fd) (c1 : Cal P w K mg base CX0 1 "fraction" ["above", "below"] spFraction) (c2 : Cal P w K mg base CX0 1 "is_less" ["one", "other"] spIsLess)
    (c3 : Cal P w K mg base CX0 2 "greater" ["one", "other"] spGreater) (c4 : Cal P w K mg base CX0 2 "lesser" ["one", "other"] spLesser) : FnOk P w K mg base CX0 3 f fd ["low", "high", "apart", "many", "off"] spNarrowed := by
  obtain ⟨f1, fd1, G1, m1, k1, b1⟩ := c1
  obtain ⟨f2, fd2, G2, m2, k2, b2⟩ := c2
  obtain ⟨f3, fd3, G3, m3, k3, b3⟩ := c3
  obtain ⟨f4, fd4, G4, m4, k4, b4⟩ := c4
  refine F.ok scNarrowed (fun vs H Q E h => ?_) (fun cdv A outer s H vs Q E hr h => ?_)
  · obtain ⟨p, q, a, b, gap, off, m, rfl, _⟩ := h
    rfl
  · obtain ⟨p, q, a, b, gap, off, m, rfl, ha, hb, ra, da, db, m0, mz, kN, kS⟩ := h
    have hr1 : Room 1 _ := hr.mono (by decide)
    refine ⟨_, pss_cons (ps_if (pt_cmpR op_eq (pv 3) pe_int (nomark _)) (pss_cons (ps_if (pt_cmpR op_gt (pv 2) (pe_op op_mul pe_int (pv 4)) (nomark _)) (pss_one (ps_ret pe_non)) pss_nil) (pss_one (ps_ret (pe_tup (pa_cons (pv 0) (pa_cons (pv 1) pa_nil)))))) pss_nil)
      (pss_cons (ps_set (i := 0) scNarrowed.nd rfl (.inl rfl) (pe_call G3 hr (by rfl) m3 k3 b3 .nil pass0 (pa_cons (pv 0) (pa_cons (pe_call G1 hr1 (by rfl) m1 k1 b1 .nil pass0 (pa_cons (pe_op op_sub (pv 2) (pe_op op_mul pe_int (pv 4))) (pa_cons (pv 3) pa_nil))) pa_nil))))
      (pss_cons (ps_set (i := 1) scNarrowed.nd rfl (.inl rfl) (pe_call G4 hr (by rfl) m4 k4 b4 .nil pass0 (pa_cons (pv 1) (pa_cons (pe_call G1 hr1 (by rfl) m1 k1 b1 .nil pass0 (pa_cons (pe_op op_add (pv 2) (pe_op op_mul pe_int (pv 4))) (pa_cons (pv 3) pa_nil))) pa_nil))))
      (pss_cons (ps_if (pt_val (pe_call G2 hr1 (by rfl) m2 k2 b2 .nil pass0 (pa_cons (pv 1) (pa_cons (pv 0) pa_nil)))) (pss_one (ps_ret pe_non)) pss_nil)
      (pss_one (ps_ret (pe_tup (pa_cons (pv 0) (pa_cons (pv 1) pa_nil)))))))), ?_⟩
    have c2' : CMul 2 (off : Nat) := .inl ⟨by decide, by decide⟩
    refine ⟨_, rfl, rfl, _, rfl, ite_eq (fun hm => ?_) (fun hm => ?_)⟩
    · subst hm
      rw [EB.cut_zero] at kN kS
      refine ⟨_, rfl, _, rfl, _, _, rfl, rfl, c2', _, _, rfl, rfl, _, rfl, ite_dec (fun hc => ?_) (fun hc => ?_)⟩
      · exact kN (if_neg (by omega)) _ (Same.refl _)
      · refine ⟨_, rfl, _, rfl, (by show 2 ≤ sizeLine; decide), fun t ht => ?_⟩
        exact kS _ (if_pos (by omega)) _ t p q (same_upd ht) ht upd_same (ha.same (same_upd ht)) (hb.same (same_upd ht))
    · have hmn : 0 < m := by omega
      have hmt : 0 < m.toNat := by omega
      have emt : ((m.toNat : Nat) : Int) = m := by omega
      rw [EB.cut_pos hmn ra] at kN kS
      have e1 : CMul 2 (off : Nat) := .inl ⟨by decide, by decide⟩
      have dl1 := EB.frac_d_le ((gap : Int) - 2 * (off : Int)) hmt
      have dl2 := EB.frac_d_le ((gap : Int) + 2 * (off : Int)) hmt
      -- low = greater(low, fraction(apart - 2 * off, many))
      refine ⟨_, rfl, _, rfl, _, rfl, _, _, rfl, rfl, e1, _, _, rfl, rfl, _, rfl, _, m.toNat, (by rw [emt]; rfl), hmt, by omega, fun p1 H1 n1 s1 h1 => ?_⟩
      refine ⟨p, p1, a, _, rfl, ha.same s1, h1, da, by omega, fun r1 g1 => ?_⟩
      -- high = lesser(high, fraction(apart + 2 * off, many))
      refine ⟨_, rfl, _, rfl, _, rfl, _, _, rfl, rfl, e1, _, _, rfl, rfl, _, rfl, _, m.toNat, (by rw [emt]; rfl), hmt, by omega, fun p2 H2 n2 s2 h2 => ?_⟩
      refine ⟨q, p2, b, _, rfl, (hb.same s1).same s2, h2, db, by omega, fun r2 g2 => ?_⟩
      have g1 := g1.same s2
      have dg1 : (EB.greater a (Sy41.frac ((gap : Int) - 2 * (off : Int)) m.toNat)).d < 1073741824 := by
        unfold EB.greater
        split <;> omega
      have dg2 : (EB.lesser b (Sy41.frac ((gap : Int) + 2 * (off : Int)) m.toNat)).d < 1073741824 := by
        unfold EB.lesser
        split <;> omega
      -- if is_less(high, low): return None
      refine ⟨_, rfl, _, rfl, r2, r1, _, _, rfl, g2, g1, dg2, dg1, _, rfl, ?_⟩
      cases e : EB.isLess (EB.lesser b (Sy41.frac ((gap : Int) + 2 * (off : Int)) m.toNat)) (EB.greater a (Sy41.frac ((gap : Int) - 2 * (off : Int)) m.toNat)) with
      | true => exact iteT (kN (if_pos e) _ (s1.trans s2))
      | false =>
        refine iteF ⟨_, rfl, _, rfl, (by show 2 ≤ sizeLine; decide), fun t ht => ?_⟩
        exact kS _ (if_neg (by rw [e]; decide)) _ t r1 r2 ((s1.trans s2).trans (same_upd ht)) ((s1.trans s2).free ht) upd_same (g1.same (same_upd ht)) (g2.same (same_upd ht))
end
end EW

namespace EW
open PySem PySem.Spec PyProof.Rows L2
open Sy41 (Frac Stretch)
open EB (Red)
/-- times as values -/
def nts (ts : List Nat) : List V := (Sy41.ints ts).map V.int
theorem nts_length (ts : List Nat) : (nts ts).length = ts.length := by
  unfold nts Sy41.ints
  rw [List.length_map, List.length_map]
theorem nts_at {ts : List Nat} {i t : Nat} (h : ts[i]? = some t) : (nts ts)[i]? = some (.int (t : Nat)) := by
  unfold nts Sy41.ints
  rw [List.getElem?_map, List.getElem?_map, h]
  rfl
theorem nts_get {ts : List Nat} {i : Nat} {y : V} (h : (nts ts)[i]? = some y) : ∃ t, ts[i]? = some t ∧ y = .int (t : Nat) := by
  cases e : ts[i]? with
  | none =>
    unfold nts Sy41.ints at h
    rw [List.getElem?_map, List.getElem?_map, e] at h
    cases h
  | some z =>
    rw [nts_at e] at h
    exact ⟨z, rfl, (Option.some.inj h).symm⟩
theorem drop_zip {α β : Type} {l : List α} {m : List β} {i : Nat} {a : α} {b : β} (h1 : l[i]? = some a) (h2 : m[i]? = some b) : (l.zip m).drop i = (a, b) :: (l.zip m).drop (i + 1) := by
  have h : (l.zip m)[i]? = some (a, b) := by
    rw [List.getElem?_zip_eq_some]
    exact ⟨h1, h2⟩
  obtain ⟨hl, e⟩ := List.getElem?_eq_some_iff.mp h
  rw [List.drop_eq_getElem_cons hl, e]
section
variable {P : Program} {w : World} {K : PySem.W.Frag} {mg : Str → Option Value} {base : Heap}
theorem scWithBeat : FnScope ["stretch", "times", "time", "beat", "off", "low", "high", "beats", "found", "own", "earlier"] ["stretch", "times", "time", "beat", "off"] (defScope sWithBeat) := ⟨rfl, rfl, rfl, by decide +kernel, rfl, by decide +kernel, by decide +kernel⟩
def spWithBeat : Sp := fun vs H Q _ => ∃ (N : Addr → Prop) (q a : Addr) (x : Stretch) (ts : List Nat) (t : Nat) (n : Int) (lo hi off t0 : Nat), vs = [.ref q, .ref a, .int (t : Nat), .int n, .int (off : Nat)] ∧
  StA N H q x ∧ H a = some (.lst (nts ts)) ∧ EB.Bnd lo hi off ∧ EB.Ok lo off t0 ts x ∧ (∀ u ∈ ts, u ≤ t) ∧ t ≤ 2000 ∧ n ≤ 2000 ∧ ts.length ≤ 900 ∧ (∀ b, N b → H b ≠ none) ∧
  (EB.one off t ts x n = none → ∀ H', Same H H' → Q .non H') ∧ (∀ y, EB.one off t ts x n = some y → ∀ H' r, Same H H' → H r = none → StA N H' r y → Q (.ref r) H')
theorem ok_with_beat {f : Addr} {fd : FuncData} (F : Fun K "with_beat" "with_beat" sWithBeat f fd) (mz : mg "zip" = none) (c1 : Cal P w K mg base CX0 3 "narrowed" ["low", "high", "apart", "many", "off"] spNarrowed) :
    FnOk P w K mg base CX0 4 f fd ["stretch", "times", "time", "beat", "off"] spWithBeat := by
  obtain ⟨f1, fd1, G1, m1, k1, b1⟩ := c1
  refine F.ok scWithBeat (fun vs H Q E h => ?_) (fun cdv A outer s H vs Q E hr h => ?_)
  · obtain ⟨N, q, a, x, ts, t, n, lo, hi, off, t0, rfl, _⟩ := h
    rfl
  · obtain ⟨N, q, a, x, ts, t, n, lo, hi, off, t0, rfl, hx, hts, B, ok, hle, ht, hn, hlen, hN, kN, kS⟩ := h
    have nd := scWithBeat.nd
    refine ⟨_, pss_cons (ps_asg (pv 0) (pg_tup (by rfl) (pgs_cons (pg_name (i := 5) nd rfl (.inl rfl)) (pgs_cons (pg_name (i := 6) nd rfl (.inl rfl)) (pgs_cons (pg_name (i := 7) nd rfl (.inl rfl)) pgs_nil)))))
      (pss_cons (ps_set (i := 8) nd rfl (.inl rfl) (pe_tup (pa_cons (pv 5) (pa_cons (pv 6) pa_nil))))
      (pss_cons (ps_for PassesOwn.never rfl (pi_zip (by rfl) mz (pa_cons (pv 7) (pa_cons (pv 1) pa_nil))) (pg_tup rfl (pgs_cons (pg_name (i := 9) nd rfl (.inl rfl)) (pgs_cons (pg_name (i := 10) nd rfl (.inl rfl)) pgs_nil)))
        (pss_cons (ps_if (pt_cmpR op_lt (pv 3) (pv 9) (nomark _)) (pss_one (ps_ret pe_non)) pss_nil)
        (pss_cons (ps_set (i := 8) nd rfl (.inl rfl) (pe_call G1 hr (by rfl) m1 k1 b1 .nil pass0 (pa_cons (pe_ix ix_tup (pv 8) pe_int (fun _ _ => rfl)) (pa_cons (pe_ix ix_tup (pv 8) pe_int (fun _ _ => rfl)) (pa_cons (pe_op op_sub (pv 2) (pv 10)) (pa_cons (pe_op op_sub (pv 3) (pv 9)) (pa_cons (pv 4) pa_nil)))))))
        (pss_one (ps_if (pt_cmpR op_isN (pv 8) pe_non (nomark _)) (pss_one (ps_ret pe_non)) pss_nil)))))
      (pss_one (ps_ret (pe_tup (pa_cons (pe_ix ix_tup (pv 8) pe_int (fun _ _ => rfl)) (pa_cons (pe_ix ix_tup (pv 8) pe_int (fun _ _ => rfl)) (pa_cons (pe_op op_cat (pv 7) (pe_lst (pa_cons (pv 3) pa_nil))) pa_nil)))))))), ?_⟩
    obtain ⟨pa, pb, pl, hq, ha, hb, hl, hNl⟩ := hx
    -- low, high, beats = stretch
    refine ⟨_, rfl, q, _, rfl, SqT.of hq, rfl, _, _, rfl, _, _, rfl, _, _, rfl, rfl, ?_⟩
    -- found = (low, high)
    refine ⟨_, rfl, _, rfl, (by show 2 ≤ sizeLine; decide), fun t1 nt1 => ?_⟩
    have s1 : Same H (upd H t1 (.tup [.ref pa, .ref pb])) := same_upd nt1
    have hnts : (x.beats.map V.int).length = (nts ts).length := by
      rw [nts_length, List.length_map, ok.len]
    -- the loop
    refine ⟨_, rfl, _, rfl, pl, a, _, _, rfl, SqL.of (s1 _ _ hl), SqL.of (s1 _ _ hts), RZ.for_zipL hnts
      (fun i σ H' => ∃ (z : Frac × Frac) (fa za zb : Addr) (o1 o2 : Option V), σ = [some (.ref q), some (.ref a), some (.int (t : Nat)), some (.int n), some (.int (off : Nat)), some (.ref pa), some (.ref pb), some (.ref pl), some (.ref fa), o1, o2] ∧
        Same H H' ∧ H' fa = some (.tup [.ref za, .ref zb]) ∧ FrA H' za z.1 ∧ FrA H' zb z.2 ∧ EB.Ends2 lo z ∧ Sy41.with_ off t n ((ts.zip x.beats).drop i) z = Sy41.with_ off t n (ts.zip x.beats) (x.a, x.b))
      ⟨(x.a, x.b), t1, pa, pb, none, none, rfl, s1, upd_same, ha.same s1, hb.same s1, ok.ends, rfl⟩ ?_ ?_ ?_⟩
    · rintro i σ H' ⟨z, fa, za, zb, o1, o2, rfl, sm, _⟩
      exact ⟨SqL.of (sm _ _ hl), SqL.of (sm _ _ hts)⟩
    · rintro i u v T σ H' hu hv ⟨z, fa, za, zb, o1, o2, rfl, sm, hf, hza, hzb, ez, ew⟩ nT
      obtain ⟨own, e1, rfl⟩ := int_get hu
      obtain ⟨y, e2, rfl⟩ := nts_get hv
      have sT : Same H' (upd H' T (.tup [.int own, .int (y : Nat)])) := same_upd nT
      have hz := drop_zip e2 e1
      have hbt := ok.bt _ (EB.mem_zip_of e2 e1)
      have hyt := hle y (List.mem_of_getElem? e2)
      rw [hz, EB.with_cons] at ew
      refine ⟨T, _, rfl, SqT.of upd_same, rfl, _, _, rfl, _, _, rfl, rfl, ?_⟩
      -- if beat < own: return None
      refine ⟨_, rfl, _, rfl, _, _, rfl, rfl, _, rfl, ite_dec (fun hc => ?_) (fun hc => ?_)⟩
      · refine kN ?_ _ (sm.trans sT)
        unfold EB.one
        rw [← ew]
        have : Sy41.cut off z (t - y) (n - own) = none := by
          unfold Sy41.cut
          rw [if_pos (by omega)]
        dsimp only
        rw [this]
        rfl
      · have eg : (t : Int) - (y : Int) = ((t - y : Nat) : Int) := by omega
        have hc0 : 0 ≤ n - own := by omega
        have dz1 := ez.ad
        have dz2 := ez.bd
        refine ⟨_, rfl, fa, _, 0, _, rfl, rfl, SqT.of (sT _ _ hf), rfl, _, rfl, fa, _, 1, _, rfl, rfl, SqT.of (sT _ _ hf), rfl, _, rfl, _, rfl, _, _, rfl, rfl, _, rfl, _, rfl, _, _, rfl, rfl, _, rfl,
          za, zb, z.1, z.2, t - y, off, n - own, (by rw [← eg]; rfl), hza.same sT, hzb.same sT, ez.ra, by omega, by omega, hc0, by omega, fun e H2 s2 => ?_, fun z' e H2 t2 za' zb' s2 n2 h2 h3 h4 => ?_⟩
        · refine ⟨_, rfl, rfl, _, rfl, iteT ?_⟩
          refine kN ?_ _ ((sm.trans sT).trans s2)
          unfold EB.one
          rw [← ew]
          dsimp only
          rw [show Sy41.cut off z (t - y) (n - own) = none from e]
          rfl
        · refine ⟨_, rfl, rfl, _, rfl, iteF ?_⟩
          have e : Sy41.cut off z (t - y) (n - own) = some z' := e
          have co := EB.cut_ok B ez (by omega) (by omega) e
          refine ⟨z', t2, za', zb', _, _, rfl, (sm.trans sT).trans s2, h2, h3, h4, co.ok, ?_⟩
          rw [← ew]
          dsimp only
          rw [e]
    · rintro σ H' ⟨z, fa, za, zb, o1, o2, rfl, sm, hf, hza, hzb, ez, ew⟩
      have ed : (ts.zip x.beats).drop (x.beats.map V.int).length = [] := by
        apply List.drop_eq_nil_of_le
        rw [List.length_zip, List.length_map]
        omega
      rw [ed] at ew
      have hone : EB.one off t ts x n = some ⟨z.1, z.2, x.beats ++ [n]⟩ := by
        unfold EB.one
        rw [← ew]
        rfl
      have hl2 := ok.len
      -- return (found[0], found[1], beats + [beat])
      refine ⟨_, rfl, fa, _, 0, _, rfl, rfl, SqT.of hf, rfl, _, rfl, fa, _, 1, _, rfl, rfl, SqT.of hf, rfl, _, rfl, _, rfl, (by show 1 ≤ sizeLine; decide), fun l1 nl1 => ?_⟩
      have sL : Same H' (upd H' l1 (.lst [.int n])) := same_upd nl1
      refine ⟨pl, l1, _, _, rfl, rfl, sL _ _ (sm _ _ hl), upd_same, ?_, fun l2 nl2 => ?_⟩
      · rw [List.length_map]
        exact Nat.le_of_lt (small1000 (by show x.beats.length + 1 ≤ 1000; omega))
      have sL2 := same_upd (o := .lst (x.beats.map V.int ++ [.int n])) nl2
      refine ⟨(by show 3 ≤ sizeLine; decide), fun r nr => ?_⟩
      have sR := same_upd (o := .tup [.ref za, .ref zb, .ref l2]) nr
      have sA := (sL.trans sL2).trans sR
      refine kS _ hone _ r (sm.trans sA) ((sm.trans (sL.trans sL2)).free nr) ⟨za, zb, l2, upd_same, hza.same sA, hzb.same sA, ?_, fun z => hN _ z ((sm.trans sL).free nl2)⟩
      rw [upd_ne (ne_of_none upd_same nr), upd_same, List.map_append]
      rfl
end
end EW

namespace EW
open PySem PySem.Spec PyProof.Rows L2
open Sy41 (Frac Stretch)
open EB (Red)
section
variable {P : Program} {w : World} {K : PySem.W.Frag} {mg : Str → Option Value} {base : Heap}
/-! ### beats_for(stretch, apart, off) -/
theorem scBeatsFor : FnScope ["stretch", "apart", "off", "low", "high", "beats", "least", "most"] ["stretch", "apart", "off"] (defScope sBeatsFor) := ⟨rfl, rfl, rfl, by decide +kernel, rfl, by decide +kernel, by decide +kernel⟩
def spBeatsFor : Sp := fun vs H Q _ => ∃ (N : Addr → Prop) (q : Addr) (x : Stretch) (lo hi off gap : Nat), vs = [.ref q, .int (gap : Nat), .int (off : Nat)] ∧ StA N H q x ∧ EB.Bnd lo hi off ∧ EB.Ends2 lo (x.a, x.b) ∧ gap ≤ 2000 ∧
  ∀ H' p, Same H H' → H p = none → H' p = some (.lst ((EB.triedG off gap x).map V.int)) → Q (.ref p) H'
theorem ok_beats_for {f : Addr} {fd : FuncData} (F : Fun K "beats_for" "beats_for" sBeatsFor f fd) (mm : mg "max" = none) (ml : mg "list" = none) (mr : mg "range" = none) (c1 : Cal P w K mg base CX0 1 "rounded_up" ["above", "below"] spRoundedUp) :
    FnOk P w K mg base CX0 2 f fd ["stretch", "apart", "off"] spBeatsFor := by
  obtain ⟨f1, fd1, G1, m1, k1, b1⟩ := c1
  refine F.ok scBeatsFor (fun vs H Q E h => ?_) (fun cdv A outer s H vs Q E hr h => ?_)
  · obtain ⟨N, q, x, lo, hi, off, gap, rfl, _⟩ := h
    rfl
  · obtain ⟨N, q, x, lo, hi, off, gap, rfl, hx, B, ee, hg, k⟩ := h
    have nd := scBeatsFor.nd
    refine ⟨_, pss_cons (ps_asg (pv 0) (pg_tup (by rfl) (pgs_cons (pg_name (i := 3) nd rfl (.inl rfl)) (pgs_cons (pg_name (i := 4) nd rfl (.inl rfl)) (pgs_cons (pg_name (i := 5) nd rfl (.inl rfl)) pgs_nil)))))
      (pss_cons (ps_set (i := 6) nd rfl (.inl rfl) (pe_callB (call_max2 rfl) (by rfl) mm (by decide +kernel) (pa_cons pe_int (pa_cons (pe_call G1 hr (by rfl) m1 k1 b1 .nil pass0
          (pa_cons (pe_op op_mul (pe_op op_sub (pv 1) (pe_op op_mul pe_int (pv 2))) (pe_ix ix_tup (pv 4) pe_int (fun _ _ => rfl))) (pa_cons (pe_ix ix_tup (pv 4) pe_int (fun _ _ => rfl)) pa_nil))) pa_nil))))
      (pss_cons (ps_set (i := 7) nd rfl (.inl rfl) (pe_op op_fdiv (pe_op op_mul (pe_op op_add (pv 1) (pe_op op_mul pe_int (pv 2))) (pe_ix ix_tup (pv 3) pe_int (fun _ _ => rfl))) (pe_ix ix_tup (pv 3) pe_int (fun _ _ => rfl))))
      (pss_one (ps_ret (pe_listRg rfl (by rfl) ml (prg_2 (by rfl) mr (pv 6) (pe_op op_add (pv 7) pe_int))))))), ?_⟩
    obtain ⟨pa, pb, pl, hq, ha, hb, hl, hNl⟩ := hx
    obtain ⟨ap, bp⟩ := ee.pos B.one
    have ap : 0 < x.a.n := ap
    have bp : 0 < x.b.n := bp
    have an : x.a.n ≤ 2000 := ee.an
    have ad : x.a.d ≤ 2000 := ee.ad
    have bn : x.b.n ≤ 3000 := ee.bn
    have bd : x.b.d ≤ 2000 := ee.bd
    have o4 := B.off4
    have ol := B.le
    have om := B.most
    have e1 : CMul 2 (off : Nat) := .inl ⟨by decide, by decide⟩
    have e2 : CMul ((gap : Int) - 2 * (off : Nat)) (x.b.d : Nat) := .inr ⟨by omega, by omega⟩
    have e3 : CMul ((gap : Int) + 2 * (off : Nat)) (x.a.d : Nat) := .inr ⟨by omega, by omega⟩
    have e4 : CDiv (((gap : Int) + 2 * (off : Nat)) * (x.a.d : Nat)) x.a.n := ⟨ap, by omega⟩
    refine ⟨_, rfl, q, _, rfl, SqT.of hq, rfl, _, _, rfl, _, _, rfl, _, _, rfl, rfl, ?_⟩
    refine ⟨_, rfl, _, rfl, _, _, rfl, rfl, e1, _, _, rfl, rfl, _, rfl, pb, _, 1, _, rfl, rfl, SqT.of hb, rfl, _, _, rfl, rfl, e2, _, rfl, pb, _, 0, _, rfl, rfl, SqT.of hb, rfl, _, _, rfl, bp, by omega, _, _, rfl, ?_⟩
    refine ⟨_, rfl, _, rfl, _, _, rfl, rfl, e1, _, _, rfl, rfl, _, rfl, pa, _, 1, _, rfl, rfl, SqT.of ha, rfl, _, _, rfl, rfl, e3, _, rfl, pa, _, 0, _, rfl, rfl, SqT.of ha, rfl, _, _, rfl, rfl, e4, ?_⟩
    refine ⟨_, rfl, _, rfl, _, _, rfl, rfl, _, _, rfl, rfl, ?_, fun p hp => ?_⟩
    · show RgOk (if EB.ceilDiv (((gap : Int) - 2 * (off : Nat)) * (x.b.d : Nat)) x.b.n > 0 then EB.ceilDiv (((gap : Int) - 2 * (off : Nat)) * (x.b.d : Nat)) x.b.n else 0) (((gap : Int) + 2 * (off : Nat)) * (x.a.d : Nat) / x.a.n + 1)
      have u1 : ((gap : Int) - 2 * (off : Nat)) * (x.b.d : Nat) ≤ 2000 * 2000 := EB.mul_bound (by omega) (by omega) (by omega) (by decide)
      have u2 : ((gap : Int) + 2 * (off : Nat)) * (x.a.d : Nat) ≤ 3000 * 2000 := EB.mul_bound (by omega) (by omega) (by omega) (by decide)
      have u3 : 0 ≤ ((gap : Int) + 2 * (off : Nat)) * (x.a.d : Nat) := Int.mul_nonneg (by omega) (by omega)
      generalize ((gap : Int) + 2 * (off : Nat)) * (x.a.d : Nat) = y at *
      generalize ((gap : Int) - 2 * (off : Nat)) * (x.b.d : Nat) = z at *
      have v1 : 0 ≤ y / x.a.n := Int.ediv_nonneg u3 (by omega)
      have v2 : y / x.a.n ≤ y := Int.ediv_le_self _ u3
      have v3 : EB.ceilDiv z x.b.n ≤ 2000 * 2000 := by
        rcases Int.le_total 0 z with c | c
        · have := EB.ceilDiv_le bp c
          omega
        · have := EB.ceilDiv_nonpos bp c
          omega
      refine RgOk.of_le ?_ (by omega) ?_ (by omega)
      · split <;> omega
      · split <;> omega
    · refine k _ p (same_upd hp) hp ?_
      rw [upd_same, EB.triedG_eq ap bp, List.map_map]
      rfl
/-! ### in_order(stretches) -/
theorem scInOrder : FnScope ["stretches", "found", "stretch", "at"] ["stretches"] (defScope sInOrder) := ⟨rfl, rfl, rfl, by decide +kernel, rfl, by decide +kernel, by decide +kernel⟩
/-- a stretch's left end is small enough to be held against another -/
def SmA (x : Stretch) : Prop := 0 < x.a.d ∧ x.a.d < 1073741824
def spInOrder : Sp := fun vs H Q _ => ∃ (N : Addr → Prop) (r : Addr) (l : List Stretch), vs = [.ref r] ∧ StL N H r l ∧ (∀ x ∈ l, SmA x) ∧ l.length ≤ 16000000 ∧ (∀ b, N b → H b ≠ none) ∧
  ∀ H' p, Same H H' → H p = none → StL N H' p (EB.order l) → Q (.ref p) H'
theorem ok_in_order {f : Addr} {fd : FuncData} (F : Fun K "in_order" "in_order" sInOrder f fd) (ml : mg "len" = none) (c1 : Cal P w K mg base CX0 1 "is_less" ["one", "other"] spIsLess) :
    FnOk P w K mg base CX0 2 f fd ["stretches"] spInOrder := by
  obtain ⟨f1, fd1, G1, m1, k1, b1⟩ := c1
  refine F.ok scInOrder (fun vs H Q E h => ?_) (fun cdv A outer s H vs Q E hr h => ?_)
  · obtain ⟨N, r, l, rfl, _⟩ := h
    rfl
  · obtain ⟨N, r, l, rfl, ⟨qs, hr0, hNr, hqs⟩, hsm, hlen, hN, k⟩ := h
    have nd := scInOrder.nd
    refine ⟨_, pss_cons (ps_set (i := 1) nd rfl (.inl rfl) (pe_lst pa_nil))
      (pss_cons (ps_for PassesOwn.never rfl (pi_list (pv 0)) (pg_name (i := 2) nd rfl (.inl rfl))
        (pss_cons (ps_set (i := 3) nd rfl (.inl rfl) (pe_callB call_len_seq (by rfl) ml PySem.boot_len (pa_cons (pv 1) pa_nil)))
        (pss_cons (ps_while PassesOwn.never (PW.pt (pw_and (pt_cmpR op_gt (pv 3) pe_int (nomark _)) (pw_and1 (pt_val (pe_call G1 hr (by rfl) m1 k1 b1 .nil pass0 (pa_cons (pe_ix ix_tup (pv 2) pe_int (fun _ _ => rfl))
            (pa_cons (pe_ix ix_tup (pe_ix ix_list (pv 1) (pe_op op_sub (pv 3) pe_int) (fun _ _ => rfl)) pe_int (fun _ _ => rfl)) pa_nil)))))))
          (pss_one (ps_aug (i := 3) nd rfl (.inl rfl) pe_int ip_sub)))
        (pss_one (ps_expr (pe_bm PySem.F.plainAttrs_list PySem.F.slot_list_insert PySem.F.type_list_insert mt_insert (pv 1) (pa_cons (pv 3) (pa_cons (pv 2) pa_nil))))))))
      (pss_one (ps_ret (pv 1)))), ?_⟩
    have hll : qs.length = l.length := Paired.length hqs
    have hsub : ∀ i, ∀ y ∈ EB.order (l.take i), y ∈ l := fun i y hy => List.mem_of_mem_take ((EB.order_perm (l.take i)).mem_iff.mp hy)
    have hlenO : ∀ i, (EB.order (l.take i)).length ≤ l.length := fun i => by
      rw [(EB.order_perm (l.take i)).length_eq, List.length_take]
      omega
    refine ⟨Nat.zero_le _, fun D nD => ?_⟩
    have sD : Same H (upd H D (.lst [])) := same_upd nD
    refine ⟨_, rfl, r, rfl, ⟨_, SqL.of (sD _ _ hr0)⟩, for_list (K := K) (a := r) (xs := qs.map V.ref)
      (fun i σ H' => ∃ (ds : List Addr) (o2 o3 : Option V), σ = [some (.ref r), some (.ref D), o2, o3] ∧ Same H H' ∧ H' D = some (.lst (ds.map V.ref)) ∧ StAs N H ds (EB.order (l.take i)))
      ⟨[], none, none, rfl, sD, upd_same, .nil⟩ (fun i σ H' _ ⟨_, _, _, _, sm, _⟩ => SqL.of (sm _ _ hr0)) ?_ ?_⟩
    · rintro i y σ H' hy ⟨ds, o2, o3, rfl, sm, hD, hds⟩
      obtain ⟨q, hq, rfl⟩ := ref_get hy
      obtain ⟨x, hx, hqx⟩ := paired_getL hqs hq
      have hxl : x ∈ l := List.mem_of_getElem? hx
      obtain ⟨pa, pb, pl, h1, h2, h3, h4, h5⟩ := id hqx
      have hdl : ds.length = (EB.order (l.take i)).length := Paired.length hds
      have dsm : ∀ y ∈ EB.order (l.take i), EB.Dp y := fun y hy => (hsm y (hsub i y hy)).1
      have srt : EB.Sorted (EB.order (l.take i)) := EB.order_sorted fun y hy => (hsm y (List.mem_of_mem_take hy)).1
      -- at = len(found)
      refine ⟨_, rfl, D, _, rfl, .inl (SqL.of hD), ?_⟩
      -- the while
      refine ⟨fun m σ H'' => H'' = H' ∧ σ = [some (.ref r), some (.ref D), some (.ref q), some (.int (m : Nat))] ∧ m ≤ ds.length ∧ ∀ j y, m ≤ j → (EB.order (l.take i))[j]? = some y → EB.isLess x.a y.a = true, ⟨ds.length, rfl, ?_, Nat.le_refl _, fun j y hj e => ?_⟩, ?_⟩
      · rw [List.length_map]
        rfl
      · have := (List.getElem?_eq_some_iff.mp e).1
        omega
      · rintro m σ H'' ⟨rfl, rfl, hm, hb⟩
        have fin : (m = 0 ∨ ∃ y, (EB.order (l.take i))[m - 1]? = some y ∧ EB.isLess x.a y.a = false) →
            ∃ ds2 o2 o3, ([some (.ref r), some (.ref D), some (.ref q), some (.int (m : Nat))] : L2.St) = [some (.ref r), some (.ref D), o2, o3] ∧ Same H (upd H'' D (.lst ((ds.map V.ref).take m ++ [.ref q] ++ (ds.map V.ref).drop m))) ∧
              (upd H'' D (.lst ((ds.map V.ref).take m ++ [.ref q] ++ (ds.map V.ref).drop m))) D = some (.lst (ds2.map V.ref)) ∧ StAs N H ds2 (EB.order (l.take (i + 1))) := fun hz => by
          refine ⟨ds.take m ++ q :: ds.drop m, _, _, rfl, fun b o e => ?_, ?_, ?_⟩
          · rw [upd_ne (ne_of_none e nD)]
            exact sm _ _ e
          · rw [upd_same]
            simp
          · rw [EB.order_take hx, EB.placed_at (hsm x hxl).1 dsm srt (by omega) hb hz]
            exact paired_append (paired_take m hds) (.cons hqx (paired_drop m hds))
        have sz : (ds.map V.ref).length < sizeLine := by
          rw [List.length_map, hdl]
          exact Nat.lt_of_le_of_lt (hlenO i) (Nat.lt_of_le_of_lt hlen (by decide))
        have m63 : ((m : Nat) : Int) < 2 ^ 63 := by
          have := hlenO i
          omega
        by_cases hm0 : m = 0
        · subst hm0
          refine ⟨_, rfl, _, _, rfl, rfl, _, rfl, ite_dec (fun z => absurd z (by show ¬ (0 : Int) < ((0 : Nat) : Int); omega)) fun _ => iteF ?_⟩
          exact ⟨_, rfl, .inl ⟨rfl, _, SqL.of hD⟩, _, rfl, _, rfl, D, _, ((0 : Nat) : Int), _, rfl, rfl, hD, sz, by omega, m63, fin (.inl rfl)⟩
        · have hm1 : m - 1 < ds.length := by omega
          obtain ⟨y, hy1, hy2⟩ := paired_getL hds (List.getElem?_eq_getElem hm1)
          obtain ⟨ya, yb, yl, g1, g2, _⟩ := id hy2
          have em : ((m : Nat) : Int) - 1 = ((m - 1 : Nat) : Int) := by omega
          have hat : atI (ds.map V.ref) (((m : Nat) : Int) - 1) = some (.ref ds[m - 1]) := at_of em (map_get (List.getElem?_eq_getElem hm1))
          have ysm := hsm y (hsub i y (List.mem_of_getElem? hy1))
          refine ⟨_, rfl, _, _, rfl, rfl, _, rfl, ite_dec (fun _ => ?_) (fun z => absurd (by show (0 : Int) < ((m : Nat) : Int); omega) z)⟩
          refine ⟨_, rfl, q, _, 0, _, rfl, rfl, SqT.of (sm _ _ h1), rfl, _, rfl, _, rfl, _, _, rfl, rfl, D, _, _, _, rfl, rfl, SqL.of hD, hat, ds[m - 1], _, 0, _, rfl, rfl, SqT.of (sm _ _ g1), rfl,
            pa, ya, _, _, rfl, h2.same sm, g2.same sm, (hsm x hxl).2, ysm.2, _, rfl, ?_⟩
          cases e : EB.isLess x.a y.a with
          | true =>
            refine iteT ⟨fun σ' H3 => H3 = H'' ∧ σ' = [some (.ref r), some (.ref D), some (.ref q), some (.int ((m - 1 : Nat) : Int))], ?_, ?_⟩
            · rintro σ' H3 ⟨rfl, rfl⟩
              refine ⟨m - 1, by omega, rfl, rfl, by omega, fun j z hj ez => ?_⟩
              by_cases ej : j = m - 1
              · subst ej
                rw [hy1] at ez
                rw [← Option.some.inj ez]
                exact e
              · exact hb j z (by omega) ez
            · refine ⟨_, rfl, _, _, rfl, rfl, rfl, ?_⟩
              rw [← em]
              rfl
          | false =>
            refine iteF ?_
            exact ⟨_, rfl, .inl ⟨rfl, _, SqL.of hD⟩, _, rfl, _, rfl, D, _, ((m : Nat) : Int), _, rfl, rfl, hD, sz, by omega, m63, fin (.inr ⟨y, hy1, e⟩)⟩
    · rintro σ H' ⟨ds, o2, o3, rfl, sm, hD, hds⟩
      rw [List.length_map, hll, List.take_length] at hds
      refine ⟨_, rfl, k _ D sm nD ⟨ds, hD, fun z => hN _ z nD, hds.same sm⟩⟩
/-! ### beats_by(stretches, period) -/
theorem scBeatsBy : FnScope ["stretches", "period", "low", "high", "beats"] ["stretches", "period"] (defScope sBeatsBy) := ⟨rfl, rfl, rfl, by decide +kernel, rfl, by decide +kernel, by decide +kernel⟩
/-- the stretch that a period is of -/
def findBy (l : List Stretch) (p : Frac) : Option Stretch := l.find? fun (x : Stretch) => Sy41.atMost x.a p && Sy41.atMost p x.b
def spBeatsBy : Sp := fun vs H Q _ => ∃ (N : Addr → Prop) (r p : Addr) (l : List Stretch) (f : Frac), vs = [.ref r, .ref p] ∧ StL N H r l ∧ FrA H p f ∧ f.d < 1073741824 ∧ (∀ x ∈ l, x.a.d < 1073741824 ∧ x.b.d < 1073741824) ∧
  (findBy l f = none → Q .non H) ∧ (∀ x, findBy l f = some x → ∀ b, H b = some (.lst (x.beats.map V.int)) → ¬ N b → Q (.ref b) H)
theorem ok_beats_by {f : Addr} {fd : FuncData} (F : Fun K "beats_by" "beats_by" sBeatsBy f fd) (c1 : Cal P w K mg base CX0 1 "is_less" ["one", "other"] spIsLess) :
    FnOk P w K mg base CX0 2 f fd ["stretches", "period"] spBeatsBy := by
  obtain ⟨f1, fd1, G1, m1, k1, b1⟩ := c1
  refine F.ok scBeatsBy (fun vs H Q E h => ?_) (fun cdv A outer s H vs Q E hr h => ?_)
  · obtain ⟨N, r, p, l, f, rfl, _⟩ := h
    rfl
  · obtain ⟨N, r, p, l, f, rfl, ⟨qs, hr0, hNr, hqs⟩, hp, fd, hsm, kN, kS⟩ := h
    have nd := scBeatsBy.nd
    refine ⟨_, pss_cons (ps_for PassesOwn.never rfl (pi_list (pv 0)) (pg_tup rfl (pgs_cons (pg_name (i := 2) nd rfl (.inl rfl)) (pgs_cons (pg_name (i := 3) nd rfl (.inl rfl)) (pgs_cons (pg_name (i := 4) nd rfl (.inl rfl)) pgs_nil))))
        (pss_one (ps_if (PW.pt (pw_and (pt_not (pt_val (pe_call G1 hr (by rfl) m1 k1 b1 .nil pass0 (pa_cons (pv 1) (pa_cons (pv 2) pa_nil))))) (pw_and1 (pt_not (pt_val (pe_call G1 hr (by rfl) m1 k1 b1 .nil pass0 (pa_cons (pv 3) (pa_cons (pv 1) pa_nil))))))))
          (pss_one (ps_ret (pv 4))) pss_nil)))
      (pss_one (ps_ret pe_non)), ?_⟩
    have hll : qs.length = l.length := Paired.length hqs
    refine ⟨_, rfl, r, rfl, ⟨_, SqL.of hr0⟩, for_list (K := K) (a := r) (xs := qs.map V.ref)
      (fun i σ H' => ∃ (o2 o3 o4 : Option V), σ = [some (.ref r), some (.ref p), o2, o3, o4] ∧ H' = H ∧ findBy (l.drop i) f = findBy l f)
      ⟨none, none, none, rfl, rfl, rfl⟩ (fun i σ H' _ ⟨_, _, _, _, e, _⟩ => e ▸ SqL.of hr0) ?_ ?_⟩
    · rintro i y σ H' hy ⟨o2, o3, o4, rfl, rfl, ef⟩
      obtain ⟨q, hq, rfl⟩ := ref_get hy
      obtain ⟨x, hx, hqx⟩ := paired_getL hqs hq
      have hxl : x ∈ l := List.mem_of_getElem? hx
      obtain ⟨pa, pb, pl, h1, h2, h3, h4, h5⟩ := hqx
      have ed : l.drop i = x :: l.drop (i + 1) := by
        obtain ⟨hl, e⟩ := List.getElem?_eq_some_iff.mp hx
        rw [List.drop_eq_getElem_cons hl, e]
      rw [ed] at ef
      have ef : (if (Sy41.atMost x.a f && Sy41.atMost f x.b) = true then some x else findBy (l.drop (i + 1)) f) = findBy l f := by
        rw [← ef]
        unfold findBy
        rw [List.find?_cons]
        cases (Sy41.atMost x.a f && Sy41.atMost f x.b) <;> rfl
      refine ⟨q, _, rfl, SqT.of h1, rfl, _, _, rfl, _, _, rfl, _, _, rfl, rfl, ?_⟩
      have e1 := EB.isLess_eq f x.a
      have e2 := EB.isLess_eq x.b f
      refine ⟨_, rfl, _, rfl, p, pa, _, _, rfl, hp, h2, fd, (hsm x hxl).1, _, rfl, ?_⟩
      show if (!EB.isLess f x.a) = true then _ else _
      rw [e1, Bool.not_not]
      cases c1 : Sy41.atMost x.a f with
      | true =>
        refine iteT ⟨_, rfl, _, rfl, pb, p, _, _, rfl, h3, hp, (hsm x hxl).2, fd, _, rfl, ?_⟩
        show if (!EB.isLess x.b f) = true then _ else _
        rw [e2, Bool.not_not]
        cases c2 : Sy41.atMost f x.b with
        | true =>
          rw [c1, c2] at ef
          exact iteT ⟨_, rfl, kS x ef.symm pl h4 h5⟩
        | false =>
          rw [c1, c2] at ef
          exact iteF ⟨_, _, _, rfl, rfl, ef⟩
      | false =>
        rw [c1] at ef
        exact iteF (iteF ⟨_, _, _, rfl, rfl, ef⟩)
    · rintro σ H' ⟨o2, o3, o4, rfl, rfl, ef⟩
      rw [List.length_map, hll, List.drop_length] at ef
      exact kN ef.symm
/-! ### window_of(times, beats, off, period) -/
theorem scWindowOf : FnScope ["times", "beats", "off", "period", "least", "most", "time", "beat"] ["times", "beats", "off", "period"] (defScope sWindowOf) := ⟨rfl, rfl, rfl, by decide +kernel, rfl, by decide +kernel, by decide +kernel⟩
def spWindowOf (K : PySem.W.Frag) : Sp := fun vs H Q _ => ∃ (a b p : Addr) (ts : List Nat) (bs : List Int) (off : Nat) (f : Frac) (t0 : Nat) (n0 : Int) (rest : List (Nat × Int)), vs = [.ref a, .ref b, .int (off : Nat), .ref p] ∧ SqL K H a (nts ts) ∧ SqL K H b (bs.map V.int) ∧
  ts.length = bs.length ∧ ts.zip bs = (t0, n0) :: rest ∧ FrA H p f ∧ 0 < f.d ∧ f.d < 1073741824 ∧ B64 f.n ∧
  ∀ H' r pl pm, Same H H' → H r = none → H' r = some (.tup [.ref pl, .ref pm]) → FrA H' pl (EB.runL off f (ts.zip bs) (EB.lessT ((t0 : Int) - off) n0 f)) → FrA H' pm (EB.runM off f (ts.zip bs) (EB.lessT ((t0 : Int) + off) n0 f)) → Q (.ref r) H'
theorem ok_window_of {f : Addr} {fd : FuncData} (F : Fun K "window_of" "window_of" sWindowOf f fd) (mz : mg "zip" = none) (c1 : Cal P w K mg base CX0 2 "less_times" ["number", "many", "one"] spLessTimes)
    (c3 : Cal P w K mg base CX0 2 "greater" ["one", "other"] spGreater) (c4 : Cal P w K mg base CX0 2 "lesser" ["one", "other"] spLesser) :
    FnOk P w K mg base CX0 3 f fd ["times", "beats", "off", "period"] (spWindowOf K) := by
  obtain ⟨f1, fd1, G1, m1, k1, b1⟩ := c1
  obtain ⟨f3, fd3, G3, m3, k3, b3⟩ := c3
  obtain ⟨f4, fd4, G4, m4, k4, b4⟩ := c4
  refine F.ok scWindowOf (fun vs H Q E h => ?_) (fun cdv A outer s H vs Q E hr h => ?_)
  · obtain ⟨a, b, p, ts, bs, off, f, t0, n0, rest, rfl, _⟩ := h
    rfl
  · obtain ⟨a, b, p, ts, bs, off, f, t0, n0, rest, rfl, hA, hB, hlen, hz, hp, f0, f1', fn, k⟩ := h
    have nd := scWindowOf.nd
    refine ⟨_, pss_cons (ps_set (i := 4) nd rfl (.inl rfl) (pe_call G1 hr (by rfl) m1 k1 b1 .nil pass0 (pa_cons (pe_op op_sub (pe_ix ix_list (pv 0) pe_int (fun _ _ => rfl)) (pv 2)) (pa_cons (pe_ix ix_list (pv 1) pe_int (fun _ _ => rfl)) (pa_cons (pv 3) pa_nil)))))
      (pss_cons (ps_set (i := 5) nd rfl (.inl rfl) (pe_call G1 hr (by rfl) m1 k1 b1 .nil pass0 (pa_cons (pe_op op_add (pe_ix ix_list (pv 0) pe_int (fun _ _ => rfl)) (pv 2)) (pa_cons (pe_ix ix_list (pv 1) pe_int (fun _ _ => rfl)) (pa_cons (pv 3) pa_nil)))))
      (pss_cons (ps_for PassesOwn.never rfl (pi_zip (by rfl) mz (pa_cons (pv 0) (pa_cons (pv 1) pa_nil))) (pg_tup rfl (pgs_cons (pg_name (i := 6) nd rfl (.inl rfl)) (pgs_cons (pg_name (i := 7) nd rfl (.inl rfl)) pgs_nil)))
        (pss_cons (ps_set (i := 4) nd rfl (.inl rfl) (pe_call G3 hr (by rfl) m3 k3 b3 .nil pass0 (pa_cons (pv 4) (pa_cons (pe_call G1 hr (by rfl) m1 k1 b1 .nil pass0 (pa_cons (pe_op op_sub (pv 6) (pv 2)) (pa_cons (pv 7) (pa_cons (pv 3) pa_nil)))) pa_nil))))
        (pss_one (ps_set (i := 5) nd rfl (.inl rfl) (pe_call G4 hr (by rfl) m4 k4 b4 .nil pass0 (pa_cons (pv 5) (pa_cons (pe_call G1 hr (by rfl) m1 k1 b1 .nil pass0 (pa_cons (pe_op op_add (pv 6) (pv 2)) (pa_cons (pv 7) (pa_cons (pv 3) pa_nil)))) pa_nil)))))))
      (pss_one (ps_ret (pe_tup (pa_cons (pv 4) (pa_cons (pv 5) pa_nil))))))), ?_⟩
    have z0 : (ts.zip bs)[0]? = some (t0, n0) := by rw [hz]; rfl
    obtain ⟨et, en⟩ := List.getElem?_zip_eq_some.mp z0
    have at0 : atI (nts ts) 0 = some (.int (t0 : Nat)) := atI_nat (j := 0) (nts_at et)
    have an0 : atI (bs.map V.int) 0 = some (.int n0) := atI_nat (j := 0) (map_get en)
    refine ⟨_, rfl, a, _, 0, _, rfl, rfl, hA, at0, _, rfl, _, _, rfl, rfl, _, rfl, b, _, 0, _, rfl, rfl, hB, an0, _, rfl, _, _, p, f, rfl, hp, f0, f1', fn, fun q1 H1 n1 s1 g1 => ?_⟩
    refine ⟨_, rfl, a, _, 0, _, rfl, rfl, s1.seq hA, at0, _, rfl, _, _, rfl, rfl, _, rfl, b, _, 0, _, rfl, rfl, s1.seq hB, an0, _, rfl, _, _, p, f, rfl, hp.same s1, f0, f1', fn, fun q2 H2 n2 s2 g2 => ?_⟩
    have s12 := s1.trans s2
    have hll : (nts ts).length = (bs.map V.int).length := by
      rw [nts_length, List.length_map, hlen]
    have dsm : ∀ t n, (EB.lessT t n f).d < 1073741824 := fun t n => by
      have := EB.lessT_d f0 t n
      omega
    refine ⟨_, rfl, _, rfl, a, b, _, _, rfl, s12.seq hA, s12.seq hB, RZ.for_zipL hll
      (fun i σ H' => ∃ (L M : Frac) (pl pm : Addr) (o6 o7 : Option V), σ = [some (.ref a), some (.ref b), some (.int (off : Nat)), some (.ref p), some (.ref pl), some (.ref pm), o6, o7] ∧ Same H H' ∧ FrA H' pl L ∧ FrA H' pm M ∧
        Red L ∧ L.d ≤ f.d ∧ Red M ∧ M.d ≤ f.d ∧ EB.runL off f ((ts.zip bs).drop i) L = EB.runL off f (ts.zip bs) (EB.lessT ((t0 : Int) - off) n0 f) ∧ EB.runM off f ((ts.zip bs).drop i) M = EB.runM off f (ts.zip bs) (EB.lessT ((t0 : Int) + off) n0 f))
      ⟨_, _, q1, q2, none, none, rfl, s12, g1.same s2, g2, EB.lessT_red f0 _ _, EB.lessT_d f0 _ _, EB.lessT_red f0 _ _, EB.lessT_d f0 _ _, rfl, rfl⟩ ?_ ?_ ?_⟩
    · rintro i σ H' ⟨L, M, pl, pm, o6, o7, rfl, sm, _⟩
      exact ⟨sm.seq hA, sm.seq hB⟩
    · rintro i u v T σ H' hu hv ⟨L, M, pl, pm, o6, o7, rfl, sm, hL, hM, rL, dL, rM, dM, eL, eM⟩ nT
      obtain ⟨t, e1, rfl⟩ := nts_get hu
      obtain ⟨n, e2, rfl⟩ := int_get hv
      have hzd := drop_zip e1 e2
      rw [hzd] at eL eM
      have sT : Same H' (upd H' T (.tup [.int (t : Nat), .int n])) := same_upd nT
      refine ⟨T, _, rfl, SqT.of upd_same, rfl, _, _, rfl, _, _, rfl, rfl, ?_⟩
      refine ⟨_, rfl, _, rfl, _, rfl, _, _, rfl, rfl, _, rfl, _, rfl, _, _, p, f, rfl, hp.same (sm.trans sT), f0, f1', fn, fun q3 H3 n3 s3 g3 => ?_⟩
      refine ⟨pl, q3, L, _, rfl, (hL.same sT).same s3, g3, by omega, dsm _ _, fun r1 h1 => ?_⟩
      refine ⟨_, rfl, _, rfl, _, rfl, _, _, rfl, rfl, _, rfl, _, rfl, _, _, p, f, rfl, hp.same ((sm.trans sT).trans s3), f0, f1', fn, fun q4 H4 n4 s4 g4 => ?_⟩
      refine ⟨pm, q4, M, _, rfl, ((hM.same sT).same s3).same s4, g4, by omega, dsm _ _, fun r2 h2 => ?_⟩
      rw [EB.greater_eq rL (EB.lessT_red f0 _ _)] at h1
      rw [EB.lesser_eq] at h2
      have c1 : Red (Sy41.greatest L (EB.lessT ((t : Int) - off) n f)) ∧ (Sy41.greatest L (EB.lessT ((t : Int) - off) n f)).d ≤ f.d := by
        rcases EB.greatest_or L (EB.lessT ((t : Int) - off) n f) with c | c <;> rw [c]
        · exact ⟨rL, dL⟩
        · exact ⟨EB.lessT_red f0 _ _, EB.lessT_d f0 _ _⟩
      have c2 : Red (Sy41.least M (EB.lessT ((t : Int) + off) n f)) ∧ (Sy41.least M (EB.lessT ((t : Int) + off) n f)).d ≤ f.d := by
        rcases EB.least_or M (EB.lessT ((t : Int) + off) n f) with c | c <;> rw [c]
        · exact ⟨rM, dM⟩
        · exact ⟨EB.lessT_red f0 _ _, EB.lessT_d f0 _ _⟩
      exact ⟨_, _, r1, r2, _, _, rfl, ((sm.trans sT).trans s3).trans s4, h1.same s4, h2, c1.1, c1.2, c2.1, c2.2, eL, eM⟩
    · rintro σ H' ⟨L, M, pl, pm, o6, o7, rfl, sm, hL, hM, rL, dL, rM, dM, eL, eM⟩
      have ed : (ts.zip bs).drop (nts ts).length = [] := by
        apply List.drop_eq_nil_of_le
        rw [List.length_zip, nts_length]
        omega
      rw [ed] at eL eM
      refine ⟨_, rfl, _, rfl, (by show 2 ≤ sizeLine; decide), fun r nr => ?_⟩
      have eL : L = _ := eL
      have eM : M = _ := eM
      subst eL eM
      exact k _ r pl pm (sm.trans (same_upd nr)) (sm.free nr) upd_same (hL.same (same_upd nr)) (hM.same (same_upd nr))
end
end EW

namespace EW
open PySem PySem.Spec PyProof.Rows L2
open Sy41 (Frac Stretch)
open EB (Red)
theorem rep_zero (n : Nat) : (List.replicate (if (n : Int) < 1 then (n : Int) else 1).toNat [V.int 0]).flatten = (List.replicate (min 1 n) (0 : Int)).map V.int := by
  cases n with
  | zero => rfl
  | succ n =>
    have h1 : (if ((n + 1 : Nat) : Int) < 1 then ((n + 1 : Nat) : Int) else 1) = 1 := if_neg (by omega)
    have h2 : min 1 (n + 1) = 1 := by omega
    rw [h1, h2]
    rfl
theorem cut_to (ts : List Nat) (k : Nat) : cutV (nts ts) none (some (k : Int)) = nts (ts.take k) := by
  unfold cutV
  rw [HT.sIx_none, HT.sIx_nat, List.drop_zero, Nat.sub_zero, nts_length]
  unfold nts Sy41.ints
  rw [← List.map_take, ← List.map_take]
  congr 2
  rcases Nat.le_total k ts.length with h | h
  · rw [Nat.min_eq_left h]
  · rw [Nat.min_eq_right h, List.take_of_length_le h, List.take_length]
theorem first_heap {N : Addr → Prop} {H : Hp} {u1 u2 u3 u4 q0 r0 : Addr} {lo hi : Nat} {bs : List Int} (hN : ∀ b, N b → H b ≠ none) (n1 : H u1 = none) (n2 : (upd H u1 (.tup [.int (lo : Nat), .int 1])) u2 = none)
    (n3 : (upd (upd H u1 (.tup [.int (lo : Nat), .int 1])) u2 (.tup [.int (hi : Nat), .int 1])) u3 = none)
    (n4 : (upd (upd (upd H u1 (.tup [.int (lo : Nat), .int 1])) u2 (.tup [.int (hi : Nat), .int 1])) u3 (.lst [.int 0])) u4 = none)
    (nq : (upd (upd (upd (upd H u1 (.tup [.int (lo : Nat), .int 1])) u2 (.tup [.int (hi : Nat), .int 1])) u3 (.lst [.int 0])) u4 (.lst (bs.map V.int))) q0 = none)
    (nr : (upd (upd (upd (upd (upd H u1 (.tup [.int (lo : Nat), .int 1])) u2 (.tup [.int (hi : Nat), .int 1])) u3 (.lst [.int 0])) u4 (.lst (bs.map V.int))) q0 (.tup [.ref u1, .ref u2, .ref u4])) r0 = none) :
    ∃ H6, H6 = upd (upd (upd (upd (upd (upd H u1 (.tup [.int (lo : Nat), .int 1])) u2 (.tup [.int (hi : Nat), .int 1])) u3 (.lst [.int 0])) u4 (.lst (bs.map V.int))) q0 (.tup [.ref u1, .ref u2, .ref u4])) r0 (.lst [.ref q0]) ∧
      Same H H6 ∧ H r0 = none ∧ StL N H6 r0 [⟨Sy41.whole (lo : Nat), Sy41.whole (hi : Nat), bs⟩] := by
  have s1 := same_upd (o := .tup [.int (lo : Nat), .int 1]) n1
  have t2 := same_upd (o := .tup [.int (hi : Nat), .int 1]) n2
  have s2 := s1.trans t2
  have t3 := same_upd (o := .lst [.int 0]) n3
  have s3 := s2.trans t3
  have t4 := same_upd (o := .lst (bs.map V.int)) n4
  have s4 := s3.trans t4
  have t5 := same_upd (o := .tup [.ref u1, .ref u2, .ref u4]) nq
  have s5 := s4.trans t5
  have t6 := same_upd (o := .lst [.ref q0]) nr
  refine ⟨_, rfl, s5.trans t6, s5.free nr, [q0], upd_same, fun z => hN _ z (s5.free nr), .cons ⟨u1, u2, u4, ?_, ?_, ?_, ?_, fun z => hN _ z (s3.free n4)⟩ .nil⟩
  · exact t6 _ _ upd_same
  · exact t6 _ _ (t5 _ _ (t4 _ _ (t3 _ _ (t2 _ _ upd_same))))
  · exact t6 _ _ (t5 _ _ (t4 _ _ (t3 _ _ upd_same)))
  · exact t6 _ _ (t5 _ _ upd_same)
section
variable {P : Program} {w : World} {K : PySem.W.Frag} {mg : Str → Option Value} {base : Heap}
/-! ### stretches_of(low, high, off, times) -/
theorem scStretchesOf : FnScope ["low", "high", "off", "times", "found", "place", "later", "stretch", "beat", "one"] ["low", "high", "off", "times"] (defScope sStretchesOf) := ⟨rfl, rfl, rfl, by decide +kernel, rfl, by decide +kernel, by decide +kernel⟩
def spStretchesOf (K : PySem.W.Frag) : Sp := fun vs H Q _ => ∃ (N : Addr → Prop) (a : Addr) (s : Sy41.St), vs = [.int (s.lo : Nat), .int (s.hi : Nat), .int (s.off : Nat), .ref a] ∧ SqL K H a (nts s.times) ∧ EB.Good s ∧ (∀ b, N b → H b ≠ none) ∧
  ∀ H' r, Same H H' → H r = none → StL N H' r (Sy41.stretches s) → Q (.ref r) H'
theorem ok_stretches_of {f : Addr} {fd : FuncData} (F : Fun K "stretches_of" "stretches_of" sStretchesOf f fd) (mm : mg "min" = none) (ml : mg "len" = none) (mr : mg "range" = none)
    (c1 : Cal P w K mg base CX0 2 "beats_for" ["stretch", "apart", "off"] spBeatsFor) (c2 : Cal P w K mg base CX0 4 "with_beat" ["stretch", "times", "time", "beat", "off"] spWithBeat) (c3 : Cal P w K mg base CX0 2 "in_order" ["stretches"] spInOrder) :
    FnOk P w K mg base CX0 5 f fd ["low", "high", "off", "times"] (spStretchesOf K) := by
  obtain ⟨f1, fd1, G1, m1, k1, b1⟩ := c1
  obtain ⟨f2, fd2, G2, m2, k2, b2⟩ := c2
  obtain ⟨f3, fd3, G3, m3, k3, b3⟩ := c3
  refine F.ok scStretchesOf (fun vs H Q E h => ?_) (fun cdv A outer s H vs Q E hr h => ?_)
  · obtain ⟨N, a, s, rfl, _⟩ := h
    rfl
  · obtain ⟨N, a, s, rfl, hT, G, hN, k⟩ := h
    have nd := scStretchesOf.nd
    have hr2 : Room 2 _ := hr.mono (by decide)
    refine ⟨_, pss_cons (ps_set (i := 4) nd rfl (.inl rfl) (pe_lst (pa_cons (pe_tup (pa_cons (pe_tup (pa_cons (pv 0) (pa_cons pe_int pa_nil))) (pa_cons (pe_tup (pa_cons (pv 1) (pa_cons pe_int pa_nil)))
        (pa_cons (pe_op op_rep (pe_lst (pa_cons pe_int pa_nil)) (pe_callB (call_min2 rfl) (by rfl) mm (by decide +kernel) (pa_cons pe_int (pa_cons (pe_callB call_len_seq (by rfl) ml PySem.boot_len (pa_cons (pv 3) pa_nil)) pa_nil)))) pa_nil)))) pa_nil)))
      (pss_cons (ps_for PassesOwn.never rfl (pi_range2 (by rfl) mr (pa_cons pe_int (pa_cons (pe_callB call_len_seq (by rfl) ml PySem.boot_len (pa_cons (pv 3) pa_nil)) pa_nil))) (pg_name (i := 5) nd rfl (.inl rfl))
        (pss_cons (ps_set (i := 6) nd rfl (.inl rfl) (pe_lst pa_nil))
        (pss_cons (ps_for PassesOwn.never rfl (pi_list (pv 4)) (pg_name (i := 7) nd rfl (.inl rfl))
          (pss_one (ps_for PassesOwn.never rfl (pi_list (pe_call G1 hr2 (by rfl) m1 k1 b1 .nil pass0 (pa_cons (pv 7) (pa_cons (pe_op op_sub (pe_ix ix_list (pv 3) (pv 5) (fun _ _ => rfl)) (pe_ix ix_list (pv 3) pe_int (fun _ _ => rfl))) (pa_cons (pv 2) pa_nil))))) (pg_name (i := 8) nd rfl (.inl rfl))
            (pss_cons (ps_set (i := 9) nd rfl (.inl rfl) (pe_call G2 hr (by rfl) m2 k2 b2 .nil pass0 (pa_cons (pv 7) (pa_cons (pe_slice sl_list (pv 3) po_none (po_some (pv 5))) (pa_cons (pe_ix ix_list (pv 3) (pv 5) (fun _ _ => rfl)) (pa_cons (pv 8) (pa_cons (pv 2) pa_nil)))))))
            (pss_one (ps_if (pt_cmpR op_notN (pv 9) pe_non (nomark _)) (pss_one (ps_expr (pe_bm PySem.F.plainAttrs_list PySem.F.slot_list_append PySem.F.type_list_append mt_append (pv 6) (pa_cons (pv 9) pa_nil)))) pss_nil))))))
        (pss_one (ps_set (i := 4) nd rfl (.inl rfl) (pv 6))))))
      (pss_one (ps_ret (pe_call G3 hr2 (by rfl) m3 k3 b3 .nil pass0 (pa_cons (pv 4) pa_nil))))), ?_⟩
    have few := G.few
    -- found = [((low, 1), (high, 1), [0] * min(1, len(times)))]
    refine ⟨_, rfl, (by show 2 ≤ sizeLine; decide), fun u1 n1 => ?_⟩
    refine ⟨_, rfl, (by show 2 ≤ sizeLine; decide), fun u2 n2 => ?_⟩
    refine ⟨(by show 1 ≤ sizeLine; decide), fun u3 n3 => ?_⟩
    have hT3 := ((same_upd (o := .lst [.int 0]) n3).seq (K := K) ((same_upd n2).seq ((same_upd n1).seq hT)))
    refine ⟨_, rfl, a, _, rfl, .inl hT3, _, _, rfl, u3, _, _, rfl, rfl, upd_same, ?_, ?_, ?_, fun u4 n4 => ?_⟩
    · split <;> omega
    · split <;> omega
    · rw [nts_length]
      show 1 * (if (s.times.length : Int) < 1 then (s.times.length : Int) else 1).toNat ≤ sizeLine
      refine Nat.le_trans (?_ : _ ≤ 1) (by decide)
      split <;> omega
    rw [nts_length, rep_zero] at *
    refine ⟨(by show 3 ≤ sizeLine; decide), fun q0 nq => ?_⟩
    refine ⟨(by show 1 ≤ sizeLine; decide), fun r0 nr0 => ?_⟩
    obtain ⟨H6, eH6, s6, nr0', st0⟩ := first_heap hN n1 n2 n3 n4 nq nr0
    rw [← eH6]
    have at0 := EB.at_zero G
    -- for place in range(1, len(times))
    refine ⟨_, rfl, a, _, rfl, .inl (s6.seq hT), 1, _, rfl, ⟨by decide, by decide, by omega, ?_⟩, ?_⟩
    · rw [nts_length]
      omega
    rw [nts_length]
    refine for_range (lo := 1) (n := ((s.times.length : Int) - 1).toNat)
      (fun i σ H' => ∃ (r : Addr) (l : List Stretch) (o5 o6 o7 o8 o9 : Option V), σ = [some (.int (s.lo : Nat)), some (.int (s.hi : Nat)), some (.int (s.off : Nat)), some (.ref a), some (.ref r), o5, o6, o7, o8, o9] ∧ Same H H' ∧ H r = none ∧ StL N H' r l ∧ EB.At s i l)
      ⟨r0, _, none, none, none, none, none, rfl, s6, nr0', st0, at0⟩ ?_ ?_
    · rintro i σ H1 hi ⟨r, l, o5, o6, o7, o8, o9, rfl, sm, nr, ⟨qs, hr1, hNr, hqs⟩, hAt⟩
      have hlt : i + 1 < s.times.length := by omega
      have et : s.times[i + 1]? = some s.times[i + 1] := List.getElem?_eq_getElem hlt
      generalize s.times[i + 1] = t at et
      obtain ⟨t0, rt, e0, h0t, ht2, ok, hle, hAt2⟩ := EB.at_next G hAt et
      have ell : (1 : Int) + (i : Nat) = ((i + 1 : Nat) : Int) := by omega
      have atp : atI (nts s.times) (1 + (i : Nat)) = some (.int (t : Nat)) := at_of ell (nts_at et)
      have at0' : atI (nts s.times) 0 = some (.int (t0 : Nat)) := atI_nat (j := 0) (nts_at (by rw [e0]; rfl))
      have hll : qs.length = l.length := Paired.length hqs
      have okl := (EB.step_oks G.B ok h0t ht2).length G.B
      -- later = []
      refine ⟨Nat.zero_le _, fun D nD => ?_⟩
      have sD : Same H1 (upd H1 D (.lst [])) := same_upd nD
      have nDH : H D = none := sm.free nD
      -- for stretch in found
      refine ⟨_, rfl, r, rfl, ⟨_, SqL.of (sD _ _ hr1)⟩, for_list (K := K) (a := r) (xs := qs.map V.ref)
        (fun j σ H2 => ∃ (ds : List Addr) (o7 o8 o9 : Option V), σ = [some (.int (s.lo : Nat)), some (.int (s.hi : Nat)), some (.int (s.off : Nat)), some (.ref a), some (.ref r), some (.int (1 + (i : Nat))), some (.ref D), o7, o8, o9] ∧ Same H1 H2 ∧
          H2 D = some (.lst (ds.map V.ref)) ∧ StAs (fun b => N b ∨ b = D) H2 ds ((l.take j).flatMap fun x => Sy41.split s.off t0 t (s.times.take (i + 1)) x))
        ⟨[], o7, o8, o9, rfl, sD, upd_same, .nil⟩ (fun j σ H2 _ ⟨_, _, _, _, _, sm2, _⟩ => SqL.of (sm2 _ _ hr1)) ?_ ?_⟩
      · rintro j y σ H2 hy ⟨ds, o7, o8, o9, rfl, sm2, hD, hds⟩
        obtain ⟨q, hq, rfl⟩ := ref_get hy
        obtain ⟨x, hx, hqx⟩ := paired_getL hqs hq
        have hxl : x ∈ l := List.mem_of_getElem? hx
        have okx := ok.all x hxl
        -- beats_for(stretch, times[place] - times[0], off)
        have hT2 := sm2.seq (sm.seq hT)
        refine ⟨_, rfl, _, rfl, _, rfl, a, _, _, _, rfl, rfl, hT2, atp, _, rfl, a, _, 0, _, rfl, rfl, hT2, at0', _, _, rfl, rfl, _, rfl, N, q, x, s.lo, s.hi, s.off, t - t0, ?_, hqx.same sm2, G.B, okx.ends, by omega, fun H3 p s3' np hp => ?_⟩
        · show [V.ref q, V.int ((t : Int) - (t0 : Int)), V.int (s.off : Nat)] = _
          rw [show (t : Int) - (t0 : Int) = ((t - t0 : Nat) : Int) by omega]
        have nDp : D ≠ p := ne_of_none hD np
        refine ⟨p, rfl, ⟨_, SqL.of hp⟩, for_list (K := K) (a := p) (xs := (EB.triedG s.off (t - t0) x).map V.int)
          (fun m σ H4 => ∃ (ds : List Addr) (o8 o9 : Option V), σ = [some (.int (s.lo : Nat)), some (.int (s.hi : Nat)), some (.int (s.off : Nat)), some (.ref a), some (.ref r), some (.int (1 + (i : Nat))), some (.ref D), some (.ref q), o8, o9] ∧ Same H1 H4 ∧
            H4 D = some (.lst (ds.map V.ref)) ∧ H4 p = some (.lst ((EB.triedG s.off (t - t0) x).map V.int)) ∧
            StAs (fun b => N b ∨ b = D) H4 ds ((l.take j).flatMap (fun x => Sy41.split s.off t0 t (s.times.take (i + 1)) x) ++ ((EB.triedG s.off (t - t0) x).take m).filterMap (EB.one s.off t (s.times.take (i + 1)) x)))
          ⟨ds, o8, o9, rfl, sm2.trans s3', s3' _ _ hD, hp, by rw [List.take_zero, List.filterMap_nil, List.append_nil]; exact StAs.same s3' hds⟩ (fun m σ H4 _ ⟨_, _, _, _, _, _, e, _⟩ => SqL.of e) ?_ ?_⟩
        · rintro m y σ H4 hy4 ⟨ds4, o8, o9, rfl, sm4, hD4, hp4, hds4⟩
          obtain ⟨n, hn, rfl⟩ := int_get hy4
          have hnm : n ∈ EB.tried s.off t0 t x := List.mem_of_getElem? hn
          have hn2 := (EB.tried_mem G.B okx ht2 hnm).2
          have hT4 := sm4.seq (sm.seq hT)
          -- with_beat(stretch, times[:place], times[place], beat, off)
          refine ⟨_, rfl, _, rfl, _, rfl, _, rfl, a, _, rfl, hT4, fun c nc => ?_⟩
          have sc : Same H4 (upd H4 c (.lst (cutV (nts s.times) none (some (1 + (i : Nat)))))) := same_upd nc
          have ecut : cutV (nts s.times) none (some (1 + (i : Nat))) = nts (s.times.take (i + 1)) := by
            rw [ell]
            exact cut_to _ _
          rw [ecut] at sc ⊢
          have hlen1 : (s.times.take (i + 1)).length ≤ 900 := by
            rw [List.length_take]
            omega
          have lenB : ds4.length < 4002001 := by
            have e1 : ds4.length = _ := Paired.length hds4
            have e2 := EB.flat_le (fun x => Sy41.split s.off t0 t (s.times.take (i + 1)) x) l (j + 1)
            rw [EB.take_flat _ hx, List.length_append] at e2
            have e3 := EB.filterMap_take_le (EB.one s.off t (s.times.take (i + 1)) x) (EB.triedG s.off (t - t0) x) m
            rw [List.length_append] at e1
            have e4 : (Sy41.split s.off t0 t (s.times.take (i + 1)) x).length = ((EB.triedG s.off (t - t0) x).filterMap (EB.one s.off t (s.times.take (i + 1)) x)).length := rfl
            omega
          refine ⟨_, rfl, _, rfl, a, _, _, _, rfl, rfl, sc.seq hT4, atp, _, rfl, _, rfl, fun b => N b ∨ b = D, q, c, x, s.times.take (i + 1), t, n, s.lo, s.hi, s.off, t0, rfl, ?_, upd_same, G.B, okx, hle, ht2, hn2, hlen1, ?_, fun e H5 s5' => ?_, fun y e H5 z s5' nz hz => ?_⟩
          · exact (hqx.imp (N' := fun b => N b ∨ b = D) fun b xs hb hz => hz.resolve_right fun e => by rw [e, nD] at hb; cases hb).same (sm4.trans sc)
          · rintro b (hb | hb)
            · exact fun z => hN b hb (sm.free (sm4.free (sc.free z)))
            · subst hb
              intro z
              rw [sc _ _ hD4] at z
              cases z
          · -- None
            have s45 := sc.trans s5'
            refine ⟨_, rfl, rfl, _, rfl, iteF ?_⟩
            refine ⟨ds4, _, _, rfl, sm4.trans s45, s45 _ _ hD4, s45 _ _ hp4, ?_⟩
            rw [EB.take_filterMap _ hn, show EB.one s.off t (s.times.take (i + 1)) x n = none from e]
            simp only [Option.toList_none, List.append_nil]
            exact StAs.same s45 hds4
          · -- a stretch
            have s45 := sc.trans s5'
            have hD5 := s45 _ _ hD4
            refine ⟨_, rfl, rfl, _, rfl, iteT ?_⟩
            refine ⟨_, rfl, .inl ⟨rfl, _, SqL.of hD5⟩, _, rfl, D, _, _, rfl, rfl, hD5, ?_, ?_⟩
            · rw [List.length_map]
              exact Nat.lt_of_lt_of_le lenB (by decide)
            · have kp : Kp (fun b => N b ∨ b = D) H5 (upd H5 D (.lst (ds4.map V.ref ++ [.ref z]))) := Kp.list (.inr rfl) hD5
              refine ⟨ds4 ++ [z], _, _, rfl, fun b o eb => ?_, ?_, ?_, ?_⟩
              · rw [upd_ne (ne_of_none eb nD)]
                exact s45 _ _ (sm4 _ _ eb)
              · rw [upd_same, List.map_append]
                rfl
              · rw [upd_ne (Ne.symm nDp)]
                exact s45 _ _ hp4
              · rw [EB.take_filterMap _ hn, show EB.one s.off t (s.times.take (i + 1)) x n = some y from e, ← List.append_assoc]
                exact paired_append (StAs.kp kp (StAs.same s45 hds4)) (.cons (hz.kp kp) .nil)
        · rintro σ H4 ⟨ds4, o8, o9, rfl, sm4, hD4, hp4, hds4⟩
          refine ⟨ds4, _, _, _, rfl, sm4, hD4, ?_⟩
          rw [List.length_map, List.take_length] at hds4
          rw [EB.take_flat _ hx]
          exact hds4
      · rintro σ H2 ⟨ds, o7, o8, o9, rfl, sm2, hD, hds⟩
        rw [List.length_map, hll, List.take_length] at hds
        refine ⟨_, rfl, D, _, _, _, _, _, _, rfl, sm.trans sm2, nDH, ⟨ds, hD, fun z => hN _ z nDH, ?_⟩, hAt2⟩
        exact Paired.mapP hds fun _ _ h => h.imp fun _ _ _ z => .inl z
    · rintro σ H1 ⟨r, l, o5, o6, o7, o8, o9, rfl, sm, nr, hSt, hAt⟩
      have hl := EB.at_last hAt (by omega)
      have hfine := EB.grown_fine G
      rw [EB.stretches_eq, ← hl] at k
      rw [← hl] at hfine
      refine ⟨_, rfl, N, r, l, rfl, hSt, fun x hx => ⟨(hfine.1 x hx).e.ra.1, ?_⟩, by have := hfine.2; omega, fun b hb z => hN b hb (sm.free z), fun H2 p s2 np hp => ?_⟩
      · have : x.a.d ≤ 2000 := (hfine.1 x hx).e.ad
        omega
      · exact k _ p (sm.trans s2) (sm.free np) hp
end
end EW

namespace EW
open PySem PySem.Spec PyProof.Rows L2
open Sy41 (Frac Stretch)
open EB (Red)
/-! ### the error -/
/-- what is wished of a refusal by a number -/
def RefE (C : Addr) (n : Int) (H : Hp) (E : XK) : Prop := ∀ (d : Addr) (H' : Hp) (fs : List (Str × V)), Same H H' → H' d = some (.xd fs) → fs.lookup ("number" : Str) = some (.int n) → E (.ref C) (some d) H'
theorem RefE.same {C : Addr} {n : Int} {H H' : Hp} {E : XK} (h : RefE C n H E) (s : Same H H') : RefE C n H' E := fun d H2 fs s2 => h d H2 fs (s.trans s2)
/-- what the top has written of Refused -/
structure RefTxt (K : PySem.W.Frag) (mg : Str → Option Value) (C fI : Addr) : Prop where
  oex : OexC K C
  iC : PySem.W.findIn K (.ref C) "__init__" = some (some (.ref fI))
  tI : PySem.W.typeIn K (.ref fI) = some (.type "function")
  noN : PySem.W.findIn K (.ref C) "number" = some none
  noC : PySem.W.findIn K (.ref C) "call" = some none
  gC : mg "Refused" = some (.ref C)
  xf : XfC K C
  te : PySem.W.exmOne K (.ref C) (.ref C) = some true
  vV : PySem.W.findCls K (.type "ValueError") (.type "type") "__init__" = some (.val (.builtin "ValueError.__init__"))
  mV : mg "ValueError" = none
section
variable {P : Program} {w : World} {K : PySem.W.Frag} {mg : Str → Option Value} {base : Heap} {C fI : Addr}
theorem scRefInit : FnScope ["self", "number", "call"] ["self", "number", "call"] (defScope sRefInit) := ⟨rfl, rfl, rfl, by decide +kernel, rfl, by decide +kernel, by decide +kernel⟩
def spRefInit (C : Addr) : Sp := fun vs H Q _ => ∃ (a : Addr) (n : Int) (v : V), vs = [.ref a, .int n, v] ∧ H a = some (exo a C none) ∧
  ∀ d, H d = none → d ≠ a → Q .non (upd (upd (upd H d (exd d [(("number" : Str), .int n)])) a (exo a C (some d))) d (exd d [(("call" : Str), v), (("number" : Str), .int n)]))
theorem ok_ref_init {f : Addr} {fd : FuncData} (F : Fun K "__init__" "Refused.__init__" sRefInit f fd) (T : RefTxt K mg C fI) : FnOk P w K mg base CX0 1 f fd ["self", "number", "call"] (spRefInit C) := by
  refine F.ok scRefInit (fun vs H Q E h => ?_) (fun cdv A outer s H vs Q E hr h => ?_)
  · obtain ⟨a, n, v, rfl, _⟩ := h
    rfl
  · obtain ⟨a, n, v, rfl, ha, k⟩ := h
    refine ⟨_, pss_cons (ps_expr (pe_veinit (by rfl) T.mV T.vV (pa_cons (pv 0) (pa_cons pe_str pa_nil)))) (pss_cons (ps_ost (pv 0) (pv 1)) (pss_one (ps_ost (pv 0) (pv 2)))), ?_⟩
    refine ⟨_, rfl, a, C, _, rfl, (by show 1 ≤ 1000; decide), T.oex, ha, ?_⟩
    refine ⟨_, rfl, _, rfl, a, C, rfl, T.oex, T.noN, .inl ⟨ha, fun d hd hda => ?_⟩⟩
    refine ⟨_, rfl, _, rfl, a, C, rfl, T.oex, T.noC, .inr ⟨d, _, upd_same, ?_, (by show 1 ≤ 900; decide), k d hd hda⟩⟩
    rw [upd_ne hda, upd_same]
/-! ### want(is_so, number), counted(row) -/
theorem scWant : FnScope ["is_so", "number"] ["is_so", "number"] (defScope sWant) := ⟨rfl, rfl, rfl, by decide +kernel, rfl, by decide +kernel, by decide +kernel⟩
def spWant (C : Addr) : Sp := fun vs H Q E => ∃ (b : Bool) (n : Int), vs = [.bl b, .int n] ∧ (b = true → Q .non H) ∧ (b = false → RefE C n H E)
theorem lookup_num {v x : V} : List.lookup ("number" : Str) [(("call" : Str), v), (("number" : Str), x)] = some x := by
  rw [lookup_put, if_neg (by decide +kernel), lookup_put, if_pos rfl]
theorem ok_want {f : Addr} {fd fdI : FuncData} (F : Fun K "want" "want" sWant f fd) (T : RefTxt K mg C fI) (G : FnOk P w K mg base CX0 1 fI fdI ["self", "number", "call"] (spRefInit C)) (bI : Binds K fdI ["self", "number", "call"] []) :
    FnOk P w K mg base (L2.CX P w) 3 f fd ["is_so", "number"] (spWant C) := by
  refine F.okX scWant (fun vs H Q E h => ?_) (fun cdv A outer s H vs Q E hr h => ?_)
  · obtain ⟨b, n, rfl, _⟩ := h
    rfl
  · obtain ⟨b, n, rfl, kT, kF⟩ := h
    refine ⟨_, pss_one (ps_if (pt_not (pt_val (pv 0))) (pss_one (ps_raise rfl (takes_of rfl rfl rfl rfl) (pmk_oex T.oex T.iC T.tI G hr bI .nil pass0 (by rfl) T.gC (pa_cons (pv 1) (pa_cons pe_str pa_nil))))) pss_nil), ?_⟩
    refine ⟨_, rfl, b, rfl, ?_⟩
    cases b with
    | true => exact iteF (kT rfl)
    | false =>
      refine iteT ⟨_, rfl, (by show 2 ≤ 1000; decide), fun a ha => ⟨a, n, _, rfl, upd_same, fun d hd hda => ⟨rfl, d, _, ?_, upd_same, ?_, ?_⟩⟩⟩
      · rw [upd_ne (Ne.symm hda), upd_same]
      · rw [upd_ne hda] at hd
        exact hd
      · have hd0 : H d = none := by
          rw [upd_ne hda] at hd
          exact hd
        refine kF rfl d _ _ (fun b o e => ?_) upd_same lookup_num
        have hb1 : b ≠ d := ne_of_none e hd0
        have hb2 : b ≠ a := ne_of_none e ha
        rw [upd_ne hb1, del_ne hb2, upd_ne hb1, upd_ne hb2, upd_ne hb1, upd_ne hb2]
        exact e
theorem scCounted : FnScope ["row"] ["row"] (defScope sCounted) := ⟨rfl, rfl, rfl, by decide +kernel, rfl, by decide +kernel, by decide +kernel⟩
def spCounted : Sp := fun vs H Q _ => ∃ (a : Addr) (ns : List Int), vs = [.ref a] ∧ H a = some (.lst (ns.map V.int)) ∧ ns.length < 16777000 ∧ ∀ H' p, Same H H' → H p = none → H' p = some (.lst (((ns.length : Int) :: ns).map V.int)) → Q (.ref p) H'
theorem ok_counted {f : Addr} {fd : FuncData} (F : Fun K "counted" "counted" sCounted f fd) (ml : mg "len" = none) : FnOk P w K mg base CX0 1 f fd ["row"] spCounted := by
  refine F.ok scCounted (fun vs H Q E h => ?_) (fun cdv A outer s H vs Q E hr h => ?_)
  · obtain ⟨a, ns, rfl, _⟩ := h
    rfl
  · obtain ⟨a, ns, rfl, ha, hl, k⟩ := h
    refine ⟨_, pss_one (ps_ret (pe_op op_cat (pe_lst (pa_cons (pe_callB call_len_seq (by rfl) ml PySem.boot_len (pa_cons (pv 0) pa_nil)) pa_nil)) (pv 0))), ?_⟩
    refine ⟨_, rfl, a, _, rfl, .inl (SqL.of ha), (by show 1 ≤ sizeLine; decide), fun l nl => ?_⟩
    have sl := same_upd (o := .lst [.int ((ns.map V.int).length : Nat)]) nl
    refine ⟨_, rfl, l, a, _, _, rfl, rfl, upd_same, sl _ _ ha, ?_, fun p np => ?_⟩
    · rw [List.length_map]
      exact Nat.le_trans (show 1 + ns.length ≤ 16777001 by omega) (by decide)
    · refine k _ p (sl.trans (same_upd np)) (sl.free np) ?_
      rw [upd_same, List.length_map]
      rfl
end
end EW

namespace EW
open PySem PySem.Spec PyProof.Rows L2
open Sy41 (Frac Stretch)
open EB (Red)
/-! ### a Beat -/
/-- its fields: bounds, times (at ps), stretches (at pst) -/
def bf (lo hi off : Int) (v1 v2 : V) : List (Str × V) := [(("low" : Str), .int lo), (("high" : Str), .int hi), (("off" : Str), .int off), (("seen" : Str), v1), (("stretches" : Str), v2)]
theorem key_put {f : Str} {v x : V} {fs : List (Str × V)} : putF f v ((f, x) :: fs) = (f, v) :: fs := by
  show (if f = f then _ else _) = _
  rw [if_pos rfl]
theorem key_skip {f g : Str} {v x : V} {fs : List (Str × V)} (h : ¬ g = f) : putF f v ((g, x) :: fs) = (g, x) :: putF f v fs := by
  show (if g = f then _ else _) = _
  rw [if_neg h]
theorem key_nil {f : Str} {v : V} : putF f v [] = [(f, v)] := rfl
section
variable {lo hi off n : Int} {v1 v2 v : V}
theorem bf_len : (bf lo hi off v1 v2).length < 1000 := by show 5 < 1000; decide
theorem bf_low : (bf lo hi off v1 v2).lookup ("low" : Str) = some (.int lo) := by
  unfold bf
  rw [lookup_put, if_pos rfl]
theorem bf_high : (bf lo hi off v1 v2).lookup ("high" : Str) = some (.int hi) := by
  unfold bf
  rw [lookup_put, if_neg (by decide +kernel), lookup_put, if_pos rfl]
theorem bf_off : (bf lo hi off v1 v2).lookup ("off" : Str) = some (.int off) := by
  unfold bf
  rw [lookup_put, if_neg (by decide +kernel), lookup_put, if_neg (by decide +kernel), lookup_put, if_pos rfl]
theorem bf_seen : (bf lo hi off v1 v2).lookup ("seen" : Str) = some v1 := by
  unfold bf
  rw [lookup_put, if_neg (by decide +kernel), lookup_put, if_neg (by decide +kernel), lookup_put, if_neg (by decide +kernel), lookup_put, if_pos rfl]
theorem bf_str : (bf lo hi off v1 v2).lookup ("stretches" : Str) = some v2 := by
  unfold bf
  rw [lookup_put, if_neg (by decide +kernel), lookup_put, if_neg (by decide +kernel), lookup_put, if_neg (by decide +kernel), lookup_put, if_neg (by decide +kernel), lookup_put, if_pos rfl]
/-- no field is named as a method -/
def noF (m : Str) : Bool := decide (¬ m = "low") && (decide (¬ m = "high") && (decide (¬ m = "off") && (decide (¬ m = "seen") && decide (¬ m = "stretches"))))
theorem bf_no {m : Str} (h : noF m = true) : (bf lo hi off v1 v2).lookup m = none := by
  unfold noF at h
  simp only [Bool.and_eq_true, decide_eq_true_eq] at h
  obtain ⟨h1, h2, h3, h4, h5⟩ := h
  unfold bf
  rw [lookup_put, if_neg h1, lookup_put, if_neg h2, lookup_put, if_neg h3, lookup_put, if_neg h4, lookup_put, if_neg h5]
  rfl
theorem put_low : putF "low" (.int n) (bf lo hi off v1 v2) = bf n hi off v1 v2 := key_put
theorem put_high : putF "high" (.int n) (bf lo hi off v1 v2) = bf lo n off v1 v2 := by
  unfold bf
  rw [key_skip (by decide +kernel), key_put]
theorem put_off : putF "off" (.int n) (bf lo hi off v1 v2) = bf lo hi n v1 v2 := by
  unfold bf
  rw [key_skip (by decide +kernel), key_skip (by decide +kernel), key_put]
theorem put_seen : putF "seen" v (bf lo hi off v1 v2) = bf lo hi off v v2 := by
  unfold bf
  rw [key_skip (by decide +kernel), key_skip (by decide +kernel), key_skip (by decide +kernel), key_put]
theorem put_str : putF "stretches" v (bf lo hi off v1 v2) = bf lo hi off v1 v := by
  unfold bf
  rw [key_skip (by decide +kernel), key_skip (by decide +kernel), key_skip (by decide +kernel), key_skip (by decide +kernel), key_put]
theorem put_all : putF "stretches" v2 (putF "seen" v1 (putF "off" (.int off) (putF "high" (.int hi) (putF "low" (.int lo) [])))) = bf lo hi off v1 v2 := by
  have h1 : putF ("low" : Str) (.int lo) [] = [(("low" : Str), .int lo)] := rfl
  have h2 : putF ("high" : Str) (.int hi) [(("low" : Str), .int lo)] = [(("low" : Str), .int lo), (("high" : Str), .int hi)] := by
    rw [key_skip (by decide +kernel), key_nil]
  have h3 : putF ("off" : Str) (.int off) [(("low" : Str), .int lo), (("high" : Str), .int hi)] = [(("low" : Str), .int lo), (("high" : Str), .int hi), (("off" : Str), .int off)] := by
    rw [key_skip (by decide +kernel), key_skip (by decide +kernel), key_nil]
  have h4 : putF ("seen" : Str) v1 [(("low" : Str), .int lo), (("high" : Str), .int hi), (("off" : Str), .int off)] = [(("low" : Str), .int lo), (("high" : Str), .int hi), (("off" : Str), .int off), (("seen" : Str), v1)] := by
    rw [key_skip (by decide +kernel), key_skip (by decide +kernel), key_skip (by decide +kernel), key_nil]
  have h5 : putF ("stretches" : Str) v2 [(("low" : Str), .int lo), (("high" : Str), .int hi), (("off" : Str), .int off), (("seen" : Str), v1)] = bf lo hi off v1 v2 := by
    rw [key_skip (by decide +kernel), key_skip (by decide +kernel), key_skip (by decide +kernel), key_skip (by decide +kernel), key_nil]
    rfl
  rw [h1, h2, h3, h4, h5]
end
/-- a Beat in the state s stands at b; its lists are none of N -/
def BeatAt (N : Addr → Prop) (C : Addr) (H : Hp) (b : Addr) (s : Sy41.St) : Prop :=
  ∃ dx ps pst, H b = some (.ins C dx (bf (s.lo : Nat) (s.hi : Nat) (s.off : Nat) (.ref ps) (.ref pst))) ∧ H ps = some (.lst (nts s.times)) ∧ ¬ N ps ∧ StL N H pst (Sy41.stretches s)
/-- all but the Beat is as it was -/
def Kb (b : Addr) (H H' : Hp) : Prop := ∀ a o, a ≠ b → H a = some o → H' a = some o
section
variable {N : Addr → Prop} {C b : Addr} {H H' H'' : Hp} {s : Sy41.St}
theorem Kb.of (s : Same H H') : Kb b H H' := fun a o _ e => s a o e
theorem Kb.trans (s : Kb b H H') (t : Kb b H' H'') : Kb b H H'' := fun a o n e => t a o n (s a o n e)
theorem Kb.ins {o : HO} : Kb b H (upd H b o) := fun a o n e => by rw [upd_ne n]; exact e
theorem Kb.kp (s : Kb b H H') {dx : Addr} {fs : List (Str × V)} (h : H b = some (.ins C dx fs)) : Kp N H H' :=
  ⟨fun a xs e => s a _ (ne_of e h (by intro z; cases z)) e, fun a xs _ e => s a _ (ne_of e h (by intro z; cases z)) e⟩
theorem Kb.nn (s : Kb b H H') {a : Addr} {o : HO} (hb : H' b = some o) (h : H' a = none) : H a = none := by
  cases e : H a with
  | none => rfl
  | some u =>
    by_cases q : a = b
    · rw [q, hb] at h
      cases h
    · rw [s a u q e] at h
      cases h
theorem Kb.there (s : Kb b H H') {a : Addr} (hb : ∃ o, H' b = some o) (h : H a ≠ none) : H' a ≠ none := by
  obtain ⟨o, hb⟩ := hb
  exact fun z => h (s.nn hb z)
theorem BeatAt.ins (h : BeatAt N C H b s) : ∃ o, H b = some o := by
  obtain ⟨dx, ps, pst, h1, _⟩ := h
  exact ⟨_, h1⟩
theorem BeatAt.same (h : BeatAt N C H b s) (e : Same H H') : BeatAt N C H' b s := by
  obtain ⟨dx, ps, pst, h1, h2, h3, h4⟩ := h
  exact ⟨dx, ps, pst, e _ _ h1, e _ _ h2, h3, h4.same e⟩
end
/-- what a call's method is to bring about -/
def Post (N : Addr → Prop) (C RC b : Addr) (H : Hp) (s : Sy41.St) (c : Sy41.Call) (Q : VK) (E : XK) : Prop :=
  (∀ H' p, Kb b H H' → H p = none → H' p = some (.lst ((Sy41Neutral.out (Sy41.step s c).2).map V.int)) → BeatAt N C H' b (Sy41.step s c).1 → Q (.ref p) H') ∧
  (∀ n, Sy41Neutral.out (Sy41.step s c).2 = [n] → (Sy41.step s c).1 = s → RefE RC n H E)
/-- what the top has written of Beat -/
structure BeatTxt (K : PySem.W.Frag) (mg : Str → Option Value) (C : Addr) : Prop where
  cl : Cls K C
  nLow : NoAttr K C "low"
  nHigh : NoAttr K C "high"
  nOff : NoAttr K C "off"
  nSeen : NoAttr K C "seen"
  nStr : NoAttr K C "stretches"
  gC : mg "Beat" = some (.ref C)
/-- the module's constants -/
structure Consts (mg : Str → Option Value) : Prop where
  out : ∃ t, mg "OUT" = some (.int (-1) t)
  none_such : ∃ t, mg "NONE_SUCH" = some (.int (-2) t)
  there : ∃ t, mg "THERE" = some (.int (-4) t)
  full : ∃ t, mg "FULL" = some (.int (-5) t)
  no_period : ∃ t, mg "NO_PERIOD" = some (.int (-6) t)
  least_low : ∃ t, mg "LEAST_LOW" = some (.int 8 t)
  most_high : ∃ t, mg "MOST_HIGH" = some (.int 1000 t)
  most_time : ∃ t, mg "MOST_TIME" = some (.int 2000 t)
  most_times : ∃ t, mg "MOST_TIMES" = some (.int 10 t)
  most_below : ∃ t, mg "MOST_BELOW" = some (.int 1000 t)
  most_period : ∃ t, mg "MOST_PERIOD" = some (.int 1000 t)
section
variable {P : Program} {w : World} {K : PySem.W.Frag} {mg : Str → Option Value} {base : Heap} {C RC fI : Addr}
/-- a module's whole number -/
theorem pe_num {X : Cx} {x : Str} {i : Int} {pos : Pos} (h : ∃ t, X.mg x = some (.int i t)) (hg : Gl X x := by rfl) (hd : (x == ("__debug__" : Str)) = false := by decide) : PE X (.Name x pos) (tC (.int i)) := by
  obtain ⟨t, h⟩ := h
  exact pe_glob hg h ⟨t, rfl⟩ hd
/-! ### __init__, stretches_with, put -/
theorem scInit : FnScope ["self"] ["self"] (defScope (bm 0)) := ⟨rfl, rfl, rfl, by decide +kernel, rfl, by decide +kernel, by decide +kernel⟩
def spInit (C : Addr) : Sp := fun vs H Q _ => ∃ (N : Addr → Prop) (b dx : Addr), vs = [.ref b] ∧ H b = some (.ins C dx []) ∧ (∀ a, N a → H a ≠ none) ∧ ∀ H', Kb b H H' → BeatAt N C H' b Sy41.init → Q .non H'
theorem ok_init {f : Addr} {fd : FuncData} (F : Fun K "__init__" "Beat.__init__" (bm 0) f fd) (T : BeatTxt K mg C) (c1 : Cal P w K mg base CX0 5 "stretches_of" ["low", "high", "off", "times"] (spStretchesOf K)) : FnOk P w K mg base CX0 6 f fd ["self"] (spInit C) := by
  obtain ⟨f1, fd1, G1, m1, k1, b1⟩ := c1
  refine F.ok scInit (fun vs H Q E h => ?_) (fun cdv A outer s H vs Q E hr h => ?_)
  · obtain ⟨N, b, dx, rfl, _⟩ := h
    rfl
  · obtain ⟨N, b, dx, rfl, hb, hN, k⟩ := h
    refine ⟨_, pss_cons (ps_fld (pv 0) pe_int rfl) (pss_cons (ps_fld (pv 0) pe_int rfl) (pss_cons (ps_fld (pv 0) pe_int rfl) (pss_cons (ps_fld (pv 0) (pe_lst pa_nil) rfl)
      (pss_one (ps_fld (pv 0) (pe_call G1 hr (by rfl) m1 k1 b1 .nil pass0 (pa_cons pe_int (pa_cons pe_int (pa_cons pe_int (pa_cons (pe_lst pa_nil) pa_nil))))) rfl))))), ?_⟩
    refine ⟨_, rfl, b, C, dx, _, rfl, hb, T.cl, T.nLow, (by show 0 < 1000; decide), ?_⟩
    refine ⟨_, rfl, b, C, dx, _, rfl, upd_same, T.cl, T.nHigh, (by show 1 < 1000; decide), ?_⟩
    refine ⟨_, rfl, b, C, dx, _, rfl, upd_same, T.cl, T.nOff, (by show 2 < 1000; decide), ?_⟩
    rw [upd_upd, upd_upd]
    refine ⟨Nat.zero_le _, fun ps np => ?_⟩
    have sp := same_upd (o := .lst []) np
    have npb : b ≠ ps := ne_of_none upd_same np
    refine ⟨_, rfl, b, C, dx, _, rfl, sp _ _ upd_same, T.cl, T.nSeen, (by show 3 < 1000; decide), ?_⟩
    refine ⟨Nat.zero_le _, fun pe ne => ?_⟩
    have kb1 : Kb b H _ := ((Kb.ins (o := .ins C dx (putF "off" (.int 0) (putF "high" (.int 1) (putF "low" (.int 1) []))))).trans (Kb.of sp)).trans ((Kb.ins (o := .ins C dx (putF "seen" (.ref ps) (putF "off" (.int 0) (putF "high" (.int 1) (putF "low" (.int 1) [])))))).trans (Kb.of (same_upd (o := .lst []) ne)))
    have hb2 : ∃ o, (upd (upd (upd (upd H b (.ins C dx (putF "off" (.int 0) (putF "high" (.int 1) (putF "low" (.int 1) []))))) ps (.lst [])) b (.ins C dx (putF "seen" (.ref ps) (putF "off" (.int 0) (putF "high" (.int 1) (putF "low" (.int 1) [])))))) pe (.lst [])) b = some o :=
      ⟨_, same_upd ne _ _ upd_same⟩
    refine ⟨N, pe, Sy41.init, rfl, SqL.of upd_same, EB.good_init, fun a ha => kb1.there hb2 (hN a ha), fun H' r s1 nr hst => ?_⟩
    refine ⟨_, rfl, b, C, dx, _, rfl, s1 _ _ (same_upd ne _ _ upd_same), T.cl, T.nStr, (by show 4 < 1000; decide), ?_⟩
    have hps : H' ps = some (.lst []) := s1 _ _ (same_upd ne _ _ (by rw [upd_ne (Ne.symm npb)]; exact upd_same))
    have hH' : H' b = some (.ins C dx (putF "seen" (.ref ps) (putF "off" (.int 0) (putF "high" (.int 1) (putF "low" (.int 1) []))))) := s1 _ _ (same_upd ne _ _ upd_same)
    refine k _ ((kb1.trans (Kb.of s1)).trans Kb.ins) ⟨dx, ps, r, ?_, ?_, fun z => hN _ z (by rw [upd_ne (Ne.symm npb)] at np; exact np), hst.kp (Kp.ins hH')⟩
    · rw [upd_same, put_all]
      rfl
    · rw [upd_ne (Ne.symm npb)]
      exact hps
/-! ### stretches_with(self, times), put(self, times) -/
theorem Kb.seq {b : Addr} {H H' : Hp} (s : Kb b H H') {dx C : Addr} {fs : List (Str × V)} (h : H b = some (.ins C dx fs)) {a : Addr} {xs : List V} (q : SqL K H a xs) : SqL K H' a xs := by
  rcases q with (q | ⟨o, q⟩) | q
  · exact .inl (.inl (s _ _ (ne_of q h (by intro z; cases z)) q))
  · exact .inl (.inr ⟨o, s _ _ (ne_of q h (by intro z; cases z)) q⟩)
  · exact .inr q
theorem scStretchesWith : FnScope ["self", "times"] ["self", "times"] (defScope (bm 1)) := ⟨rfl, rfl, rfl, by decide +kernel, rfl, by decide +kernel, by decide +kernel⟩
def spStretchesWith (K : PySem.W.Frag) (C : Addr) : Sp := fun vs H Q _ => ∃ (N : Addr → Prop) (b dx a : Addr) (s : Sy41.St) (v1 v2 : V) (ts : List Nat), vs = [.ref b, .ref a] ∧ H b = some (.ins C dx (bf (s.lo : Nat) (s.hi : Nat) (s.off : Nat) v1 v2)) ∧
  SqL K H a (nts ts) ∧ s.times.Perm ts ∧ EB.Good s ∧ (∀ c, N c → H c ≠ none) ∧ ∀ H' r, Same H H' → H r = none → StL N H' r (Sy41.stretches s) → Q (.ref r) H'
theorem ok_stretches_with {f : Addr} {fd : FuncData} (F : Fun K "stretches_with" "Beat.stretches_with" (bm 1) f fd) (T : BeatTxt K mg C) (ms : mg "sorted" = none) (c1 : Cal P w K mg base CX0 5 "stretches_of" ["low", "high", "off", "times"] (spStretchesOf K)) :
    FnOk P w K mg base CX0 6 f fd ["self", "times"] (spStretchesWith K C) := by
  obtain ⟨f1, fd1, G1, m1, k1, b1⟩ := c1
  refine F.ok scStretchesWith (fun vs H Q E h => ?_) (fun cdv A outer s H vs Q E hr h => ?_)
  · obtain ⟨N, b, dx, a, s, v1, v2, ts, rfl, _⟩ := h
    rfl
  · obtain ⟨N, b, dx, a, s, v1, v2, ts, rfl, hb, hT, hp, G, hN, k⟩ := h
    refine ⟨_, pss_one (ps_ret (pe_call G1 hr (by rfl) m1 k1 b1 .nil pass0 (pa_cons (pe_fld (pv 0) rfl) (pa_cons (pe_fld (pv 0) rfl) (pa_cons (pe_fld (pv 0) rfl) (pa_cons (pe_callB cr_sorted (by rfl) ms PyProof.Rows.boot_sorted (pa_cons (pv 1) pa_nil)) pa_nil)))))), ?_⟩
    refine ⟨_, rfl, b, C, dx, _, _, rfl, hb, T.cl, T.nLow, bf_low, _, rfl, b, C, dx, _, _, rfl, hb, T.cl, T.nHigh, bf_high, _, rfl, b, C, dx, _, _, rfl, hb, T.cl, T.nOff, bf_off, _, rfl, a, Sy41.ints ts, rfl, hT, ?_, fun ns p h1 h2 np => ?_⟩
    · have e := hp.length_eq
      have := G.few
      show (Sy41.ints ts).length < 64
      unfold Sy41.ints
      rw [List.length_map]
      omega
    · have e := EB.sorted_is h1 h2 hp G.up
      subst e
      have sp := same_upd (o := .lst ((Sy41.ints s.times).map V.int)) np
      exact ⟨N, p, s, rfl, SqL.of upd_same, G, fun c hc z => hN c hc (sp.free z), fun H' r s' nr hst => k H' r (sp.trans s') (sp.free nr) hst⟩
theorem scPut : FnScope ["self", "times"] ["self", "times"] (defScope (bm 3)) := ⟨rfl, rfl, rfl, by decide +kernel, rfl, by decide +kernel, by decide +kernel⟩
def spPut (K : PySem.W.Frag) (C : Addr) : Sp := fun vs H Q _ => ∃ (N : Addr → Prop) (b dx a : Addr) (s : Sy41.St) (v1 v2 : V) (ts : List Nat), vs = [.ref b, .ref a] ∧ H b = some (.ins C dx (bf (s.lo : Nat) (s.hi : Nat) (s.off : Nat) v1 v2)) ∧
  SqL K H a (nts ts) ∧ s.times.Perm ts ∧ EB.Good s ∧ (∀ c, N c → H c ≠ none) ∧ ∀ H' r, Kb b H H' → H r = none → H' r = some (.lst [.int 0]) → BeatAt N C H' b s → Q (.ref r) H'
theorem ok_put {f : Addr} {fd : FuncData} (F : Fun K "put" "Beat.put" (bm 3) f fd) (T : BeatTxt K mg C) (ms : mg "sorted" = none) (c1 : CalM P w K mg base CX0 6 C "stretches_with" ["self", "times"] (spStretchesWith K C)) :
    FnOk P w K mg base CX0 7 f fd ["self", "times"] (spPut K C) := by
  obtain ⟨f1, fd1, G1, m1, b1⟩ := c1
  refine F.ok scPut (fun vs H Q E h => ?_) (fun cdv A outer s H vs Q E hr h => ?_)
  · obtain ⟨N, b, dx, a, s, v1, v2, ts, rfl, _⟩ := h
    rfl
  · obtain ⟨N, b, dx, a, s, v1, v2, ts, rfl, hb, hT, hp, G, hN, k⟩ := h
    refine ⟨_, pss_cons (ps_fld (pv 0) (pe_callB cr_sorted (by rfl) ms PyProof.Rows.boot_sorted (pa_cons (pv 1) pa_nil)) rfl) (pss_cons (ps_fld (pv 0) (pe_meth (pv 0) T.cl m1 G1 hr b1 .nil pass0 (pa_cons (pv 1) pa_nil)) rfl) (pss_one (ps_ret (pe_lst (pa_cons pe_int pa_nil))))), ?_⟩
    refine ⟨_, rfl, a, Sy41.ints ts, rfl, hT, ?_, fun ns p h1 h2 np => ?_⟩
    · have e := hp.length_eq
      have := G.few
      show (Sy41.ints ts).length < 64
      unfold Sy41.ints
      rw [List.length_map]
      omega
    · have e := EB.sorted_is h1 h2 hp G.up
      subst e
      have sp := same_upd (o := .lst ((Sy41.ints s.times).map V.int)) np
      have nbp : b ≠ p := ne_of_none hb np
      refine ⟨_, rfl, b, C, dx, _, rfl, sp _ _ hb, T.cl, T.nSeen, bf_len, ?_⟩
      rw [put_seen]
      have kb1 : Kb b H (upd (upd H p (.lst ((Sy41.ints s.times).map V.int))) b (.ins C dx (bf (s.lo : Nat) (s.hi : Nat) (s.off : Nat) (.ref p) v2))) := (Kb.of sp).trans Kb.ins
      refine ⟨_, rfl, b, dx, _, rfl, upd_same, bf_no (by decide +kernel), _, rfl, N, b, dx, a, s, _, _, ts, rfl, upd_same, kb1.seq hb hT, hp, G, fun c hc => kb1.there ⟨_, upd_same⟩ (hN c hc), fun H' r s' nr hst => ?_⟩
      have hb' := s' _ _ (upd_same (a := b) (o := .ins C dx (bf (s.lo : Nat) (s.hi : Nat) (s.off : Nat) (.ref p) v2)))
      refine ⟨_, rfl, b, C, dx, _, rfl, hb', T.cl, T.nStr, bf_len, ?_⟩
      rw [put_str]
      have kb2 := (kb1.trans (Kb.of s')).trans (Kb.ins (o := .ins C dx (bf (s.lo : Nat) (s.hi : Nat) (s.off : Nat) (.ref p) (.ref r))))
      refine ⟨(by show 1 ≤ sizeLine; decide), fun q nq => ?_⟩
      have sq := same_upd (o := .lst [.int 0]) nq
      refine k _ q (kb2.trans (Kb.of sq)) (kb2.nn (by exact upd_same) nq) upd_same ⟨dx, p, r, sq _ _ upd_same, sq _ _ ?_, fun z => hN _ z np, (hst.kp (Kp.ins hb')).same sq⟩
      rw [upd_ne (Ne.symm nbp)]
      exact s' _ _ (by rw [upd_ne (Ne.symm nbp)]; exact upd_same)
end
end EW

namespace EW
open PySem PySem.Spec PyProof.Rows L2
open Sy41 (Frac Stretch)
open EB (Red)
/-! ### small facts of values -/
theorem flat_nts (ts : List Nat) : (nts ts).all flatV = true := by
  unfold nts
  rw [List.all_map]
  exact List.all_eq_true.mpr fun _ _ => rfl
theorem inV_nts (t : Nat) : ∀ ts : List Nat, inV (.int (t : Nat)) (nts ts) = ts.contains t
  | [] => rfl
  | x :: r => by
    have ih := inV_nts t r
    show ((x : Int) == (t : Int) || inV (.int (t : Nat)) (nts r)) = (x :: r).contains t
    rw [ih, List.contains_cons]
    congr 1
    rw [Bool.eq_iff_iff]
    simp only [beq_iff_eq]
    omega
theorem nts_snoc (ts : List Nat) (t : Nat) : nts ts ++ [.int (t : Nat)] = nts (ts ++ [t]) := by
  unfold nts Sy41.ints
  rw [List.map_append, List.map_append]
  rfl
/-- a list of stretches as data -/
def dInts (l : List Int) : List PyData := l.map PyData.int
def dSt (x : Stretch) : PyData := .tuple [.tuple (dInts [x.a.n, (x.a.d : Nat)]), .tuple (dInts [x.b.n, (x.b.d : Nat)]), .list (dInts x.beats)]
theorem dp_ints {K : PySem.W.Frag} {H : Hp} : ∀ l : List Int, DpAll K H (l.map V.int) (dInts l)
  | [] => .nil
  | n :: r => .cons (.int n) (dp_ints r)
theorem dp_st {K : PySem.W.Frag} {N : Addr → Prop} {H : Hp} {q : Addr} {x : Stretch} (h : StA N H q x) : Dp K H (.ref q) (dSt x) := by
  obtain ⟨pa, pb, pl, h1, h2, h3, h4, _⟩ := h
  exact .tup (SqT.of h1) (.cons (.tup (SqT.of h2) (dp_ints [x.a.n, (x.a.d : Nat)])) (.cons (.tup (SqT.of h3) (dp_ints [x.b.n, (x.b.d : Nat)])) (.cons (.lst (SqL.of h4) (dp_ints x.beats)) .nil)))
theorem dp_sts {K : PySem.W.Frag} {N : Addr → Prop} {H : Hp} : ∀ {qs : List Addr} {l : List Stretch}, StAs N H qs l → DpAll K H (qs.map V.ref) (l.map dSt)
  | _, _, .nil => .nil
  | _, _, .cons r t => .cons (dp_st r) (dp_sts t)
theorem dp_stl {K : PySem.W.Frag} {N : Addr → Prop} {H : Hp} {r : Addr} {l : List Stretch} (h : StL N H r l) : Dp K H (.ref r) (.list (l.map dSt)) := by
  obtain ⟨qs, h1, _, h3⟩ := h
  exact .lst (SqL.of h1) (dp_sts h3)
theorem lay_ints : ∀ l : List Int, PyData.canLayAll0 (dInts l) = true
  | [] => by unfold dInts; simp [PyData.canLayAll0]
  | n :: r => by
    have ih := lay_ints r
    show PyData.canLayAll0 (.int n :: dInts r) = true
    simp only [PyData.canLayAll0, PyData.canLay0, ih, Bool.and_self]
theorem lay_st (x : Stretch) : PyData.canLay0 (dSt x) = true := by
  unfold dSt
  simp only [PyData.canLay0, PyData.canLayAll0, lay_ints, Bool.and_self]
theorem lay_sts : ∀ l : List Stretch, PyData.canLayAll0 (l.map dSt) = true
  | [] => by simp [PyData.canLayAll0]
  | x :: r => by
    rw [List.map_cons]
    simp only [PyData.canLayAll0, lay_st, lay_sts r, Bool.and_self]
theorem dep_ints : ∀ l : List Int, PyData.depthAll (dInts l) = 0
  | [] => by unfold dInts; simp [PyData.depthAll]
  | n :: r => by
    have ih := dep_ints r
    show PyData.depthAll (.int n :: dInts r) = 0
    simp only [PyData.depthAll, PyData.depth, ih, Nat.max_self]
theorem dep_st (x : Stretch) : PyData.depth (dSt x) = 2 := by
  unfold dSt
  simp only [PyData.depth, PyData.depthAll, dep_ints]
  rfl
theorem dep_sts : ∀ l : List Stretch, PyData.depthAll (l.map dSt) ≤ 2
  | [] => by simp [PyData.depthAll]
  | x :: r => by
    have ih := dep_sts r
    rw [List.map_cons]
    simp only [PyData.depthAll, dep_st]
    omega
theorem shaped_sts (l : List Stretch) : SeqAt.shaped (.list (l.map dSt)) = true := by
  unfold SeqAt.shaped
  have h1 := dep_sts l
  have h2 : PyData.depth (.list (l.map dSt)) ≤ 64 := by
    simp only [PyData.depth]
    omega
  rw [decide_eq_true h2]
  simp only [PyData.canLay0, lay_sts, Bool.and_self]
theorem eqv_sts (l : List Stretch) : PyData.eqv (.list (l.map dSt)) (.list []) = l.isEmpty := by
  cases l with
  | nil => simp [PyData.eqv, PyData.eqvAll]
  | cons x r => simp [PyData.eqv, PyData.eqvAll]
section
variable {P : Program} {w : World} {K : PySem.W.Frag} {mg : Str → Option Value} {base : Heap} {C RC fI : Addr}
/-- a call refused: its one number -/
theorem Post.ref {N : Addr → Prop} {b : Addr} {H : Hp} {s : Sy41.St} {c : Sy41.Call} {Q : VK} {E : XK} (p : Post N C RC b H s c Q E) {n : Int} (h : Sy41.step s c = (s, Sy41.ok n)) : RefE RC n H E := by
  refine p.2 n ?_ ?_
  · rw [h]
    rfl
  · rw [h]
/-- a call answered; the state stays -/
theorem Post.ans {N : Addr → Prop} {b : Addr} {H : Hp} {s : Sy41.St} {c : Sy41.Call} {Q : VK} {E : XK} (p : Post N C RC b H s c Q E) {a : Sy41.Ans} (h : Sy41.step s c = (s, a)) {H' : Hp} {q : Addr} (kb : Same H H') (hB : BeatAt N C H b s) (nq : H q = none) (hq : H' q = some (.lst ((Sy41Neutral.out a).map V.int))) : Q (.ref q) H' := by
  refine p.1 H' q (Kb.of kb) nq ?_ ?_
  · rw [h]
    exact hq
  · rw [h]
    exact hB.same kb
/-! ### begin(self, low, high, off) -/
theorem scBegin : FnScope ["self", "low", "high", "off"] ["self", "low", "high", "off"] (defScope (bm 2)) := ⟨rfl, rfl, rfl, by decide +kernel, rfl, by decide +kernel, by decide +kernel⟩
def spBegin (C RC : Addr) : Sp := fun vs H Q E => ∃ (N : Addr → Prop) (b : Addr) (s : Sy41.St) (lo hi off : Nat), vs = [.ref b, .int (lo : Nat), .int (hi : Nat), .int (off : Nat)] ∧ BeatAt N C H b s ∧ EB.GoodS s ∧ (∀ c, N c → H c ≠ none) ∧ Post N C RC b H s (.begins lo hi off) Q E
theorem ok_begin {f : Addr} {fd : FuncData} (F : Fun K "begin" "Beat.begin" (bm 2) f fd) (T : BeatTxt K mg C) (Cn : Consts mg) (cw : Cal P w K mg base (L2.CX P w) 3 "want" ["is_so", "number"] (spWant RC)) (cp : CalM P w K mg base CX0 7 C "put" ["self", "times"] (spPut K C)) :
    FnOk P w K mg base (L2.CX P w) 8 f fd ["self", "low", "high", "off"] (spBegin C RC) := by
  obtain ⟨fw, fdw, Gw, mw, kw, bw⟩ := cw
  obtain ⟨fp, fdp, Gp, mp, bp⟩ := cp
  refine F.okX scBegin (fun vs H Q E h => ?_) (fun cdv A outer s H vs Q E hr h => ?_)
  · obtain ⟨N, b, s, lo, hi, off, rfl, _⟩ := h
    rfl
  · obtain ⟨N, b, s, lo, hi, off, rfl, hB, G, hN, po⟩ := h
    have hr3 : Room 3 _ := hr.mono (by decide)
    refine ⟨_, pss_cons (ps_expr (pe_call Gw hr3 (by rfl) mw kw bw .nil (passes_call (takes_of rfl rfl rfl rfl) (fun _ _ _ _ h => h))
        (pa_cons (pe_and (pe_cmpR op_le (pe_num Cn.least_low) (pv 1) (nomark _)) (pe_and (pe_cmpR op_le (pv 1) (pv 2) (nomark _)) (pe_and (pe_cmpR op_le (pv 2) (pe_num Cn.most_high) (nomark _)) (pe_one (pe_cmpR op_gt (pv 1) (pe_op op_mul pe_int (pv 3)) (nomark _))))))
          (pa_cons (pe_num Cn.out) pa_nil))))
      (pss_cons (ps_fld (pv 0) (pv 1) rfl) (pss_cons (ps_fld (pv 0) (pv 2) rfl) (pss_cons (ps_fld (pv 0) (pv 3) rfl) (pss_one (ps_ret (pe_meth (pv 0) T.cl mp Gp hr bp .nil pass0 (pa_cons (pe_lst pa_nil) pa_nil))))))), ?_⟩
    have bad : ¬ (8 ≤ lo ∧ lo ≤ hi ∧ hi ≤ 1000 ∧ 4 * off < lo) → RefE RC (-1) H E := fun h => po.ref (EB.step_begins_bad h)
    have e4 : CMul 4 (off : Nat) := .inl ⟨by decide, by decide⟩
    refine ⟨_, rfl, _, _, rfl, rfl, _, rfl, ite_dec (fun h1 => ?_) (fun h1 => ⟨false, -1, rfl, fun z => (by cases z), fun _ => bad (by omega)⟩)⟩
    refine ⟨_, rfl, _, rfl, _, _, rfl, rfl, _, rfl, ite_dec (fun h2 => ?_) (fun h2 => ⟨false, -1, rfl, fun z => (by cases z), fun _ => bad (by omega)⟩)⟩
    refine ⟨_, rfl, _, _, rfl, rfl, _, rfl, ite_dec (fun h3 => ?_) (fun h3 => ⟨false, -1, rfl, fun z => (by cases z), fun _ => bad (by omega)⟩)⟩
    refine ⟨_, rfl, _, rfl, _, _, rfl, rfl, e4, _, _, rfl, rfl, _, -1, rfl, fun z => ?_, fun z => bad (by have := of_decide_eq_false z; omega)⟩
    have h4 : 4 * (off : Int) < lo := of_decide_eq_true z
    have ok : 8 ≤ lo ∧ lo ≤ hi ∧ hi ≤ 1000 ∧ 4 * off < lo := by omega
    have es := EB.step_begins_ok (s := s) ok
    obtain ⟨dx, ps, pst, hb, hps, hnp, hst⟩ := id hB
    refine ⟨_, rfl, _, rfl, b, C, dx, _, rfl, hb, T.cl, T.nLow, bf_len, ?_⟩
    rw [put_low]
    refine ⟨_, rfl, _, rfl, b, C, dx, _, rfl, upd_same, T.cl, T.nHigh, bf_len, ?_⟩
    rw [put_high, upd_upd]
    refine ⟨_, rfl, _, rfl, b, C, dx, _, rfl, upd_same, T.cl, T.nOff, bf_len, ?_⟩
    rw [put_off, upd_upd]
    have kb1 : Kb b H (upd H b (.ins C dx (bf (lo : Nat) (hi : Nat) (off : Nat) (.ref ps) (.ref pst)))) := Kb.ins
    refine ⟨_, rfl, b, dx, _, rfl, upd_same, bf_no (by decide +kernel), Nat.zero_le _, fun l nl => ?_⟩
    have sl := same_upd (o := .lst []) nl
    have kb2 := kb1.trans (Kb.of sl)
    have hb2 := sl _ _ (upd_same (a := b) (o := .ins C dx (bf (lo : Nat) (hi : Nat) (off : Nat) (.ref ps) (.ref pst))))
    refine ⟨N, b, dx, l, ⟨lo, hi, off, []⟩, _, _, [], rfl, hb2, SqL.of upd_same, List.Perm.refl _, (EB.good_begins ok).g, fun c hc => kb2.there ⟨_, hb2⟩ (hN c hc), fun H' r s' nr hr' hB' => ?_⟩
    refine po.1 H' r (kb2.trans s') (kb2.nn hb2 nr) ?_ ?_
    · rw [es]
      exact hr'
    · rw [es]
      exact hB'
/-! ### see(self, time) -/
theorem scSee : FnScope ["self", "time"] ["self", "time"] (defScope (bm 4)) := ⟨rfl, rfl, rfl, by decide +kernel, rfl, by decide +kernel, by decide +kernel⟩
/-- a method of one number -/
def spOne (C RC : Addr) (c : Nat → Sy41.Call) : Sp := fun vs H Q E => ∃ (N : Addr → Prop) (b : Addr) (s : Sy41.St) (t : Nat), vs = [.ref b, .int (t : Nat)] ∧ BeatAt N C H b s ∧ EB.GoodS s ∧ (∀ c, N c → H c ≠ none) ∧ Post N C RC b H s (c t) Q E
theorem ok_see {f : Addr} {fd : FuncData} (F : Fun K "see" "Beat.see" (bm 4) f fd) (T : BeatTxt K mg C) (Cn : Consts mg) (ml : mg "len" = none) (cw : Cal P w K mg base (L2.CX P w) 3 "want" ["is_so", "number"] (spWant RC)) (cp : CalM P w K mg base CX0 7 C "put" ["self", "times"] (spPut K C))
    (cs : CalM P w K mg base CX0 6 C "stretches_with" ["self", "times"] (spStretchesWith K C)) : FnOk P w K mg base (L2.CX P w) 8 f fd ["self", "time"] (spOne C RC Sy41.Call.seen) := by
  obtain ⟨fw, fdw, Gw, mw, kw, bw⟩ := cw
  obtain ⟨fp, fdp, Gp, mp, bp⟩ := cp
  obtain ⟨fs, fds, Gs, ms, bs⟩ := cs
  refine F.okX scSee (fun vs H Q E h => ?_) (fun cdv A outer s H vs Q E hr h => ?_)
  · obtain ⟨N, b, s, t, rfl, _⟩ := h
    rfl
  · obtain ⟨N, b, s, t, rfl, hB, G, hN, po⟩ := h
    have hr3 : Room 3 _ := hr.mono (by decide)
    have hr6 : Room 6 _ := hr.mono (by decide)
    refine ⟨_, pss_cons (ps_expr (pe_call Gw hr3 (by rfl) mw kw bw .nil (passes_call (takes_of rfl rfl rfl rfl) (fun _ _ _ _ h => h)) (pa_cons (pe_cmpR op_le (pv 1) (pe_num Cn.most_time) (nomark _)) (pa_cons (pe_num Cn.out) pa_nil))))
      (pss_cons (ps_expr (pe_call Gw hr3 (by rfl) mw kw bw .nil (passes_call (takes_of rfl rfl rfl rfl) (fun _ _ _ _ h => h)) (pa_cons (pe_cmpR op_notIn_seq (pv 1) (pe_fld (pv 0) rfl) (by rfl)) (pa_cons (pe_num Cn.there) pa_nil))))
      (pss_cons (ps_expr (pe_call Gw hr3 (by rfl) mw kw bw .nil (passes_call (takes_of rfl rfl rfl rfl) (fun _ _ _ _ h => h)) (pa_cons (pe_cmpR op_lt (pe_callB call_len_seq (by rfl) ml PySem.boot_len (pa_cons (pe_fld (pv 0) rfl) pa_nil)) (pe_num Cn.most_times) (nomark _)) (pa_cons (pe_num Cn.full) pa_nil))))
      (pss_cons (ps_expr (pe_call Gw hr3 (by rfl) mw kw bw .nil (passes_call (takes_of rfl rfl rfl rfl) (fun _ _ _ _ h => h))
        (pa_cons (pe_cmpR (op_neD hr.units) (pe_meth (pv 0) T.cl ms Gs hr6 bs .nil pass0 (pa_cons (pe_op op_cat (pe_fld (pv 0) rfl) (pe_lst (pa_cons (pv 1) pa_nil))) pa_nil)) (pe_lst pa_nil) (nomark _)) (pa_cons (pe_num Cn.no_period) pa_nil))))
      (pss_cons (ps_expr (pe_meth (pv 0) T.cl mp Gp hr bp .nil pass0 (pa_cons (pe_op op_cat (pe_fld (pv 0) rfl) (pe_lst (pa_cons (pv 1) pa_nil))) pa_nil)))
      (pss_one (ps_ret (pe_lst (pa_cons (pe_callB call_len_seq (by rfl) ml PySem.boot_len (pa_cons (pe_fld (pv 0) rfl) pa_nil)) pa_nil)))))))), ?_⟩
    obtain ⟨dx, ps, pst, hb, hps, hnp, hst⟩ := id hB
    have ten := G.ten
    refine ⟨_, rfl, _, _, rfl, rfl, _, -1, rfl, fun z1 => ?_, fun z1 => po.ref (EB.step_seen_far (by have := of_decide_eq_false z1; omega))⟩
    have h1 : ¬ 2000 < t := by
      have : (t : Int) ≤ 2000 := of_decide_eq_true z1
      omega
    refine ⟨_, rfl, _, rfl, b, C, dx, _, _, rfl, hb, T.cl, T.nSeen, bf_seen, ps, _, rfl, .inl (SqL.of hps), rfl, flat_nts _, _, -4, rfl, fun z2 => ?_, fun z2 => po.ref (EB.step_seen_there h1 ?_)⟩
    rotate_left
    · have z2 : (!inV (.int (t : Nat)) (nts s.times)) = false := z2
      rw [inV_nts] at z2
      simpa using z2
    have h2 : s.times.contains t = false := by
      have z2 : (!inV (.int (t : Nat)) (nts s.times)) = true := z2
      rw [inV_nts] at z2
      simpa using z2
    refine ⟨_, rfl, b, C, dx, _, _, rfl, hb, T.cl, T.nSeen, bf_seen, ps, _, rfl, .inl (SqL.of hps), _, _, rfl, rfl, _, -5, rfl, fun z3 => ?_, fun z3 => po.ref (EB.step_seen_full h1 h2 ?_)⟩
    rotate_left
    · have z3 := of_decide_eq_false z3
      rw [nts_length] at z3
      omega
    have h3 : ¬ 10 ≤ s.times.length := by
      have z3 := of_decide_eq_true z3
      rw [nts_length] at z3
      omega
    have Gp' : EB.Good (Sy41.plus s t) := EB.good_plus G.g (by omega) (fun hm => by rw [List.contains_iff_mem.mpr hm] at h2; cases h2) (by omega)
    have szt : (nts s.times).length + ([.int (t : Nat)] : List V).length ≤ sizeLine := by
      rw [nts_length]
      exact Nat.le_trans (show s.times.length + 1 ≤ 1000 by omega) (by decide)
    -- stretches_with(self.seen + [time]) != []
    refine ⟨_, rfl, b, dx, _, rfl, hb, bf_no (by decide +kernel), _, rfl, b, C, dx, _, _, rfl, hb, T.cl, T.nSeen, bf_seen, _, rfl, (by show 1 ≤ sizeLine; decide), fun l1 n1 => ?_⟩
    have s1 := same_upd (o := .lst [.int (t : Nat)]) n1
    refine ⟨ps, l1, _, _, rfl, rfl, s1 _ _ hps, upd_same, szt, fun l2 n2 => ?_⟩
    rw [nts_snoc] at *
    have s2 := s1.trans (same_upd (o := .lst (nts (s.times ++ [t]))) n2)
    refine ⟨N, b, dx, l2, Sy41.plus s t, _, _, s.times ++ [t], rfl, s2 _ _ hb, SqL.of upd_same, EB.put_perm_end t s.times, Gp', fun c hc z => hN c hc (s2.free z), fun H3 r s3 nr hr3 => ?_⟩
    have s23 := s2.trans s3
    refine ⟨Nat.zero_le _, fun l3 n3 => ?_⟩
    have s4 := same_upd (o := .lst []) n3
    have s24 := s23.trans s4
    refine ⟨_, _, dp_stl (hr3.same s4), .lst (SqL.of upd_same) .nil, shaped_sts _, by decide, _, -6, rfl, fun z4 => ?_, fun z4 => (po.ref (EB.step_seen_none h1 h2 h3 ?_)).same s24⟩
    rotate_left
    · rw [eqv_sts] at z4
      simpa using z4
    have h4 : (Sy41.stretches (Sy41.plus s t)).isEmpty = false := by
      rw [eqv_sts] at z4
      simpa using z4
    have es := EB.step_seen_ok h1 h2 h3 h4
    -- self.put(self.seen + [time])
    generalize (upd H3 l3 (.lst []) : Hp) = H4 at *
    refine ⟨_, rfl, b, dx, _, rfl, s24 _ _ hb, bf_no (by decide +kernel), _, rfl, b, C, dx, _, _, rfl, s24 _ _ hb, T.cl, T.nSeen, bf_seen, _, rfl, (by show 1 ≤ sizeLine; decide), fun l5 n5 => ?_⟩
    have s5 := same_upd (o := .lst [.int (t : Nat)]) n5
    refine ⟨ps, l5, _, _, rfl, rfl, s5 _ _ (s24 _ _ hps), upd_same, szt, fun l6 n6 => ?_⟩
    rw [nts_snoc] at *
    have s6 := (s24.trans s5).trans (same_upd (o := .lst (nts (s.times ++ [t]))) n6)
    refine ⟨N, b, dx, l6, Sy41.plus s t, _, _, s.times ++ [t], rfl, s6 _ _ hb, SqL.of upd_same, EB.put_perm_end t s.times, Gp', fun c hc z => hN c hc (s6.free z), fun H7 r7 k7 n7 _ hB7 => ?_⟩
    obtain ⟨dx7, ps7, pst7, hb7, hps7, hnp7, hst7⟩ := id hB7
    obtain ⟨qs7, hq7, _, hqs7⟩ := id hst7
    refine ⟨_, rfl, b, C, dx7, _, _, rfl, hb7, T.cl, T.nStr, bf_str, pst7, _, rfl, .inl (SqL.of hq7), (by show 1 ≤ sizeLine; decide), fun p np => ?_⟩
    have sp := same_upd (o := .lst [.int ((qs7.map V.ref).length : Nat)]) np
    refine po.1 _ p (((Kb.of s6).trans k7).trans (Kb.of sp)) (((Kb.of s6).trans k7).nn hb7 np) ?_ ?_
    · rw [es, upd_same, List.length_map, Paired.length hqs7]
      rfl
    · rw [es]
      exact hB7.same sp
end
end EW

namespace EW
open PySem PySem.Spec PyProof.Rows L2
open Sy41 (Frac Stretch)
open EB (Red)
theorem ints_filter (ts : List Nat) (t : Nat) (i : Nat) {u : Nat} (h : ts[i]? = some u) : nts ((ts.take (i + 1)).filter fun x => x != t) = if u ≠ t then nts ((ts.take i).filter fun x => x != t) ++ [.int (u : Nat)] else nts ((ts.take i).filter fun x => x != t) := by
  rw [List.take_add_one, h, List.filter_append]
  by_cases e : u = t
  · subst e
    simp
  · rw [if_pos e, nts_snoc]
    congr 2
    show List.filter _ [u] = [u]
    rw [List.filter_cons_of_pos (by simpa using e)]
    rfl
theorem say_map (f : Frac) : ([.int f.n, .int (f.d : Nat)] : List V) = (Sy41.say f).map V.int := rfl
section
variable {P : Program} {w : World} {K : PySem.W.Frag} {mg : Str → Option Value} {base : Heap} {C RC fI : Addr}
/-! ### drop(self, time) -/
theorem scDrop : FnScope ["self", "time", "one"] ["self", "time"] (defScope (bm 5)) := ⟨rfl, rfl, rfl, by decide +kernel, rfl, by decide +kernel, by decide +kernel⟩
theorem ok_drop {f : Addr} {fd : FuncData} (F : Fun K "drop" "Beat.drop" (bm 5) f fd) (T : BeatTxt K mg C) (Cn : Consts mg) (ml : mg "len" = none) (cw : Cal P w K mg base (L2.CX P w) 3 "want" ["is_so", "number"] (spWant RC)) (cp : CalM P w K mg base CX0 7 C "put" ["self", "times"] (spPut K C)) :
    FnOk P w K mg base (L2.CX P w) 8 f fd ["self", "time"] (spOne C RC Sy41.Call.drop) := by
  obtain ⟨fw, fdw, Gw, mw, kw, bw⟩ := cw
  obtain ⟨fp, fdp, Gp, mp, bp⟩ := cp
  refine F.okX scDrop (fun vs H Q E h => ?_) (fun cdv A outer s H vs Q E hr h => ?_)
  · obtain ⟨N, b, s, t, rfl, _⟩ := h
    rfl
  · obtain ⟨N, b, s, t, rfl, hB, G, hN, po⟩ := h
    have hr3 : Room 3 _ := hr.mono (by decide)
    have nd := scDrop.nd
    refine ⟨_, pss_cons (ps_expr (pe_call Gw hr3 (by rfl) mw kw bw .nil (passes_call (takes_of rfl rfl rfl rfl) (fun _ _ _ _ h => h)) (pa_cons (pe_cmpR op_in_seq (pv 1) (pe_fld (pv 0) rfl) (by rfl)) (pa_cons (pe_num Cn.none_such) pa_nil))))
      (pss_cons (ps_expr (pe_meth (pv 0) T.cl mp Gp hr bp .nil pass0 (pa_cons (pe_lc (own := [("one", 2)]) (g := gName 2) (by rfl) nd (pi_list (pe_fld (pv 0) rfl)) (blkOk_by (own := [("one", 2)]) (N := ["self", "time", "one"]) (sc := defScope (bm 5)) (by decide +kernel))
          (fun _ _ _ _ _ => pg_name (i := 2) nd rfl (Or.inl rfl)) (fun _ _ _ _ _ => pts_one (pt_cmpR op_ne (pv 2) (pv 1) (nomark _))) (fun _ _ _ _ _ => pv 2)) pa_nil)))
      (pss_one (ps_ret (pe_lst (pa_cons (pe_callB call_len_seq (by rfl) ml PySem.boot_len (pa_cons (pe_fld (pv 0) rfl) pa_nil)) pa_nil))))), ?_⟩
    obtain ⟨dx, ps, pst, hb, hps, hnp, hst⟩ := id hB
    have ten := G.ten
    refine ⟨_, rfl, _, rfl, b, C, dx, _, _, rfl, hb, T.cl, T.nSeen, bf_seen, ps, _, rfl, .inl (SqL.of hps), rfl, flat_nts _, _, -2, rfl, fun z2 => ?_, fun z2 => po.ref (EB.step_drop_none ?_)⟩
    rotate_left
    · have z2 : (inV (.int (t : Nat)) (nts s.times)) = false := z2
      rw [inV_nts] at z2
      exact z2
    have h2 : s.times.contains t = true := by
      have z2 : (inV (.int (t : Nat)) (nts s.times)) = true := z2
      rw [inV_nts] at z2
      exact z2
    have es := EB.step_drop_ok h2
    -- self.put([one for one in self.seen if one != time])
    refine ⟨_, rfl, b, dx, _, rfl, hb, bf_no (by decide +kernel), _, rfl, b, C, dx, _, _, rfl, hb, T.cl, T.nSeen, bf_seen, ps, rfl, ⟨_, SqL.of hps⟩, fun D nD => ?_⟩
    refine lc_list (K := K) (a := ps) (xs := nts s.times) (fun i H' => Same H H' ∧ H' D = some (.lst (nts ((s.times.take i).filter fun x => x != t)))) ⟨same_upd nD, upd_same⟩ (fun i H' _ h => SqL.of (h.1 _ _ hps)) ?_ ?_
    · rintro i y H' hy ⟨sm, hD⟩
      obtain ⟨u, hu, rfl⟩ := nts_get hy
      have ef := ints_filter s.times t i hu
      refine ⟨rfl, _, rfl, _, rfl, rfl, _, rfl, ite_ne (fun hne => ?_) (fun he => ?_)⟩
      · have hne : u ≠ t := fun z => hne (by rw [z])
        rw [if_pos hne] at ef
        refine ⟨_, rfl, _, hD, ?_, fun b' o e => ?_, ?_⟩
        · rw [nts_length]
          have e1 : ((s.times.take i).filter fun x => x != t).length ≤ s.times.length := Nat.le_trans (List.length_filter_le _ _) (by rw [List.length_take]; omega)
          exact small1000 (by omega)
        · rw [upd_ne (ne_of_none e nD)]
          exact sm _ _ e
        · rw [upd_same, ef]
      · have he : u = t := by omega
        rw [if_neg (fun z => z he)] at ef
        exact ⟨sm, by rw [ef]; exact hD⟩
    · rintro H' ⟨sm, hD⟩
      rw [nts_length, List.take_length] at hD
      refine ⟨N, b, dx, D, EB.dropped s t, _, _, _, rfl, sm _ _ hb, SqL.of hD, List.Perm.refl _, EB.good_drop G.g t, fun c hc z => hN c hc (sm.free z), fun H7 r7 k7 n7 _ hB7 => ?_⟩
      obtain ⟨dx7, ps7, pst7, hb7, hps7, hnp7, hst7⟩ := id hB7
      obtain ⟨qs7, hq7, _, hqs7⟩ := id hst7
      refine ⟨_, rfl, b, C, dx7, _, _, rfl, hb7, T.cl, T.nStr, bf_str, pst7, _, rfl, .inl (SqL.of hq7), (by show 1 ≤ sizeLine; decide), fun p np => ?_⟩
      have sp := same_upd (o := .lst [.int ((qs7.map V.ref).length : Nat)]) np
      refine po.1 _ p (((Kb.of sm).trans k7).trans (Kb.of sp)) (((Kb.of sm).trans k7).nn hb7 np) ?_ ?_
      · rw [es, upd_same, List.length_map, Paired.length hqs7]
        rfl
      · rw [es]
        exact hB7.same sp
/-! ### could(self, time) -/
theorem scCould : FnScope ["self", "time"] ["self", "time"] (defScope (bm 9)) := ⟨rfl, rfl, rfl, by decide +kernel, rfl, by decide +kernel, by decide +kernel⟩
theorem ok_could {f : Addr} {fd : FuncData} (F : Fun K "could" "Beat.could" (bm 9) f fd) (T : BeatTxt K mg C) (Cn : Consts mg) (ml : mg "len" = none) (cw : Cal P w K mg base (L2.CX P w) 3 "want" ["is_so", "number"] (spWant RC))
    (cs : CalM P w K mg base CX0 6 C "stretches_with" ["self", "times"] (spStretchesWith K C)) : FnOk P w K mg base (L2.CX P w) 7 f fd ["self", "time"] (spOne C RC Sy41.Call.could) := by
  obtain ⟨fw, fdw, Gw, mw, kw, bw⟩ := cw
  obtain ⟨fs, fds, Gs, ms, bs⟩ := cs
  refine F.okX scCould (fun vs H Q E h => ?_) (fun cdv A outer s H vs Q E hr h => ?_)
  · obtain ⟨N, b, s, t, rfl, _⟩ := h
    rfl
  · obtain ⟨N, b, s, t, rfl, hB, G, hN, po⟩ := h
    have hr3 : Room 3 _ := hr.mono (by decide)
    refine ⟨_, pss_cons (ps_expr (pe_call Gw hr3 (by rfl) mw kw bw .nil (passes_call (takes_of rfl rfl rfl rfl) (fun _ _ _ _ h => h)) (pa_cons (pe_cmpR op_le (pv 1) (pe_num Cn.most_time) (nomark _)) (pa_cons (pe_num Cn.out) pa_nil))))
      (pss_cons (ps_if (pt_cmpR op_in_seq (pv 1) (pe_fld (pv 0) rfl) (by rfl)) (pss_one (ps_ret (pe_lst (pa_cons (pe_callB call_len_seq (by rfl) ml PySem.boot_len (pa_cons (pe_fld (pv 0) rfl) pa_nil)) pa_nil)))) pss_nil)
      (pss_one (ps_ret (pe_lst (pa_cons (pe_callB call_len_seq (by rfl) ml PySem.boot_len (pa_cons (pe_meth (pv 0) T.cl ms Gs hr bs .nil pass0 (pa_cons (pe_op op_cat (pe_fld (pv 0) rfl) (pe_lst (pa_cons (pv 1) pa_nil))) pa_nil)) pa_nil)) pa_nil))))), ?_⟩
    obtain ⟨dx, ps, pst, hb, hps, hnp, hst⟩ := id hB
    obtain ⟨qs, hq, _, hqs⟩ := id hst
    have ten := G.ten
    refine ⟨_, rfl, _, _, rfl, rfl, _, -1, rfl, fun z1 => ?_, fun z1 => po.ref (EB.step_could_far (by have := of_decide_eq_false z1; omega))⟩
    have h1 : ¬ 2000 < t := by
      have : (t : Int) ≤ 2000 := of_decide_eq_true z1
      omega
    refine ⟨_, rfl, _, rfl, b, C, dx, _, _, rfl, hb, T.cl, T.nSeen, bf_seen, ps, _, rfl, .inl (SqL.of hps), rfl, flat_nts _, _, rfl, ?_⟩
    show if (inV (.int (t : Nat)) (nts s.times)) = true then _ else _
    rw [inV_nts]
    cases h2 : s.times.contains t with
    | true =>
      refine iteT ⟨_, rfl, b, C, dx, _, _, rfl, hb, T.cl, T.nStr, bf_str, pst, _, rfl, .inl (SqL.of hq), (by show 1 ≤ sizeLine; decide), fun p np => ?_⟩
      refine po.ans (EB.step_could_there h1 h2) (same_upd np) hB np ?_
      rw [upd_same, List.length_map, Paired.length hqs]
      rfl
    | false =>
      have Gp' : EB.Good (Sy41.plus s t) := EB.good_plus G.g (by omega) (fun hm => by rw [List.contains_iff_mem.mpr hm] at h2; cases h2) (by omega)
      have szt : (nts s.times).length + ([.int (t : Nat)] : List V).length ≤ sizeLine := by
        rw [nts_length]
        exact Nat.le_trans (show s.times.length + 1 ≤ 1000 by omega) (by decide)
      refine iteF ⟨_, rfl, b, dx, _, rfl, hb, bf_no (by decide +kernel), _, rfl, b, C, dx, _, _, rfl, hb, T.cl, T.nSeen, bf_seen, _, rfl, (by show 1 ≤ sizeLine; decide), fun l1 n1 => ?_⟩
      have s1 := same_upd (o := .lst [.int (t : Nat)]) n1
      refine ⟨ps, l1, _, _, rfl, rfl, s1 _ _ hps, upd_same, szt, fun l2 n2 => ?_⟩
      rw [nts_snoc] at *
      have s2 := s1.trans (same_upd (o := .lst (nts (s.times ++ [t]))) n2)
      refine ⟨N, b, dx, l2, Sy41.plus s t, _, _, s.times ++ [t], rfl, s2 _ _ hb, SqL.of upd_same, EB.put_perm_end t s.times, Gp', fun c hc z => hN c hc (s2.free z), fun H3 r s3 nr hr3 => ?_⟩
      have s23 := s2.trans s3
      obtain ⟨qs3, hq3, _, hqs3⟩ := id hr3
      refine ⟨r, _, rfl, .inl (SqL.of hq3), (by show 1 ≤ sizeLine; decide), fun p np => ?_⟩
      refine po.ans (EB.step_could_ok h1 h2) (s23.trans (same_upd np)) hB (s23.free np) ?_
      rw [upd_same, List.length_map, Paired.length hqs3]
      rfl
/-! ### periods(self) -/
theorem scPeriods : FnScope ["self", "found", "low", "high", "beats"] ["self"] (defScope (bm 6)) := ⟨rfl, rfl, rfl, by decide +kernel, rfl, by decide +kernel, by decide +kernel⟩
/-- a method of no number -/
def spNone (C RC : Addr) (c : Sy41.Call) : Sp := fun vs H Q E => ∃ (N : Addr → Prop) (b : Addr) (s : Sy41.St), vs = [.ref b] ∧ BeatAt N C H b s ∧ EB.GoodS s ∧ (∀ c, N c → H c ≠ none) ∧ Post N C RC b H s c Q E
def flat4 (l : List Stretch) : List Int := l.flatMap fun (x : Stretch) => Sy41.say x.a ++ Sy41.say x.b
theorem flat4_len : ∀ l : List Stretch, (flat4 l).length = 4 * l.length
  | [] => rfl
  | x :: r => by
    have ih := flat4_len r
    show (Sy41.say x.a ++ Sy41.say x.b ++ flat4 r).length = 4 * (r.length + 1)
    rw [List.length_append, ih]
    show 4 + 4 * r.length = _
    omega
theorem flat4_take {l : List Stretch} {i : Nat} {x : Stretch} (h : l[i]? = some x) : flat4 (l.take (i + 1)) = flat4 (l.take i) ++ Sy41.say x.a ++ Sy41.say x.b := by
  unfold flat4
  rw [EB.take_flat _ h, List.append_assoc]
theorem ok_periods {f : Addr} {fd : FuncData} (F : Fun K "periods" "Beat.periods" (bm 6) f fd) (T : BeatTxt K mg C) (ml : mg "len" = none) (mls : mg "list" = none) (cc : Cal P w K mg base CX0 1 "counted" ["row"] spCounted) :
    FnOk P w K mg base (L2.CX P w) 2 f fd ["self"] (spNone C RC .periods) := by
  obtain ⟨fc, fdc, Gc, mc, kc, bc⟩ := cc
  refine F.okX scPeriods (fun vs H Q E h => ?_) (fun cdv A outer s H vs Q E hr h => ?_)
  · obtain ⟨N, b, s, rfl, _⟩ := h
    rfl
  · obtain ⟨N, b, s, rfl, hB, G, hN, po⟩ := h
    have nd := scPeriods.nd
    refine ⟨_, pss_cons (ps_set (i := 1) nd rfl (.inl rfl) (pe_lst pa_nil))
      (pss_cons (ps_for (passes_of rfl) rfl (pi_list (pe_fld (pv 0) rfl)) (pg_tup rfl (pgs_cons (pg_name (i := 2) nd rfl (.inl rfl)) (pgs_cons (pg_name (i := 3) nd rfl (.inl rfl)) (pgs_cons (pg_name (i := 4) nd rfl (.inl rfl)) pgs_nil))))
        (pss_one (ps_set (i := 1) nd rfl (.inl rfl) (pe_op op_cat (pe_op op_cat (pv 1) (pe_callTy call_list_of (by rfl) mls (by decide +kernel) (pa_cons (pv 2) pa_nil))) (pe_callTy call_list_of (by rfl) mls (by decide +kernel) (pa_cons (pv 3) pa_nil))))))
      (pss_one (ps_ret (pe_op op_cat (pe_lst (pa_cons (pe_callB call_len_seq (by rfl) ml PySem.boot_len (pa_cons (pe_fld (pv 0) rfl) pa_nil)) pa_nil)) (pe_call Gc hr (by rfl) mc kc bc .nil pass0 (pa_cons (pv 1) pa_nil)))))), ?_⟩
    obtain ⟨dx, ps, pst, hb, hps, hnp, hst⟩ := id hB
    obtain ⟨qs, hq, _, hqs⟩ := id hst
    have hll : qs.length = (Sy41.stretches s).length := Paired.length hqs
    have hcnt := (EB.st_fine G.g).2
    refine ⟨Nat.zero_le _, fun D nD => ?_⟩
    have sD := same_upd (o := .lst []) nD
    refine ⟨_, rfl, b, C, dx, _, _, rfl, sD _ _ hb, T.cl, T.nStr, bf_str, pst, rfl, ⟨_, SqL.of (sD _ _ hq)⟩, for_list (K := K) (a := pst) (xs := qs.map V.ref)
      (fun i σ H' => ∃ (D : Addr) (o2 o3 o4 : Option V), σ = [some (.ref b), some (.ref D), o2, o3, o4] ∧ Same H H' ∧ H' D = some (.lst ((flat4 ((Sy41.stretches s).take i)).map V.int)))
      ⟨D, none, none, none, rfl, sD, upd_same⟩ (fun i σ H' _ ⟨_, _, _, _, _, sm, _⟩ => SqL.of (sm _ _ hq)) ?_ ?_⟩
    · rintro i y σ H' hy ⟨D, o2, o3, o4, rfl, sm, hD⟩
      obtain ⟨q, hqi, rfl⟩ := ref_get hy
      obtain ⟨x, hx, hqx⟩ := paired_getL hqs hqi
      obtain ⟨pa, pb, pl, h1, h2, h3, h4, h5⟩ := hqx.same sm
      have hi : i < (Sy41.stretches s).length := (List.getElem?_eq_some_iff.mp hx).1
      have hfl : (flat4 ((Sy41.stretches s).take i)).length ≤ 16008000 - 4 := by
        rw [flat4_len, List.length_take]
        omega
      refine ⟨q, _, rfl, SqT.of h1, rfl, _, _, rfl, _, _, rfl, _, _, rfl, rfl, ?_⟩
      refine ⟨_, rfl, _, rfl, pa, _, rfl, .inr (SqT.of h2), fun l1 n1 => ?_⟩
      rw [say_map] at *
      have s1 := same_upd (o := .lst ((Sy41.say x.a).map V.int)) n1
      refine ⟨D, l1, _, _, rfl, rfl, s1 _ _ hD, upd_same, ?_, fun l2 n2 => ?_⟩
      · rw [List.length_map]
        exact Nat.le_trans (show (flat4 ((Sy41.stretches s).take i)).length + 2 ≤ 16008000 by omega) (by decide)
      have s2 := s1.trans (same_upd (o := .lst ((flat4 ((Sy41.stretches s).take i)).map V.int ++ (Sy41.say x.a).map V.int)) n2)
      refine ⟨_, rfl, pb, _, rfl, .inr (SqT.of (s2 _ _ h3)), fun l3 n3 => ?_⟩
      rw [say_map] at *
      have s3 := same_upd (o := .lst ((Sy41.say x.b).map V.int)) n3
      refine ⟨l2, l3, _, _, rfl, rfl, s3 _ _ upd_same, upd_same, ?_, fun l4 n4 => ?_⟩
      · rw [List.length_append, List.length_map]
        exact Nat.le_trans (show (flat4 ((Sy41.stretches s).take i)).length + 2 + 2 ≤ 16008000 by omega) (by decide)
      refine ⟨l4, _, _, _, rfl, (sm.trans s2).trans (s3.trans (same_upd n4)), ?_⟩
      rw [upd_same, flat4_take hx, List.map_append, List.map_append]
    · rintro σ H' ⟨D, o2, o3, o4, rfl, sm, hD⟩
      rw [List.length_map, hll, List.take_length] at hD
      have hfl : (flat4 (Sy41.stretches s)).length ≤ 16008000 := by
        rw [flat4_len]
        omega
      refine ⟨_, rfl, b, C, dx, _, _, rfl, sm _ _ hb, T.cl, T.nStr, bf_str, pst, _, rfl, .inl (SqL.of (sm _ _ hq)), (by show 1 ≤ sizeLine; decide), fun l1 n1 => ?_⟩
      have s1 := same_upd (o := .lst [.int ((qs.map V.ref).length : Nat)]) n1
      refine ⟨_, rfl, D, _, rfl, s1 _ _ hD, by omega, fun H2 l2 s2 n2 h2 => ?_⟩
      refine ⟨l1, l2, _, _, rfl, rfl, s2 _ _ upd_same, h2, ?_, fun p np => ?_⟩
      · show 1 + (((((flat4 (Sy41.stretches s)).length : Nat) : Int) :: flat4 (Sy41.stretches s)).map V.int).length ≤ sizeLine
        rw [List.length_map, List.length_cons]
        exact Nat.le_trans (show 1 + ((flat4 (Sy41.stretches s)).length + 1) ≤ 16008002 by omega) (by decide)
      refine po.ans EB.step_periods (((sm.trans s1).trans s2).trans (same_upd np)) hB (((sm.trans s1).trans s2).free np) ?_
      rw [upd_same, EB.out_one, List.length_map, hll]
      rfl
end
end EW

namespace EW
open PySem PySem.Spec PyProof.Rows L2
open Sy41 (Frac Stretch)
open EB (Red)
section
variable {P : Program} {w : World} {K : PySem.W.Frag} {mg : Str → Option Value} {base : Heap} {C RC fI : Addr}
/-! ### period(self, above, below) -/
theorem scPeriod : FnScope ["self", "above", "below"] ["self", "above", "below"] (defScope (bm 7)) := ⟨rfl, rfl, rfl, by decide +kernel, rfl, by decide +kernel, by decide +kernel⟩
def spPeriod (RC : Addr) : Sp := fun vs H Q E => ∃ (v : V) (p q : Nat), vs = [v, .int (p : Nat), .int (q : Nat)] ∧ (EB.okPer p q → ∀ H' r, Same H H' → H r = none → FrA H' r (Sy41.frac (p : Nat) q) → Q (.ref r) H') ∧ (¬ EB.okPer p q → RefE RC (-1) H E)
theorem ok_period {f : Addr} {fd : FuncData} (F : Fun K "period" "Beat.period" (bm 7) f fd) (Cn : Consts mg) (cw : Cal P w K mg base (L2.CX P w) 3 "want" ["is_so", "number"] (spWant RC)) (cf : Cal P w K mg base CX0 1 "fraction" ["above", "below"] spFraction) :
    FnOk P w K mg base (L2.CX P w) 4 f fd ["self", "above", "below"] (spPeriod RC) := by
  obtain ⟨fw, fdw, Gw, mw, kw, bw⟩ := cw
  obtain ⟨ff, fdf, Gf, mf, kf, bf'⟩ := cf
  refine F.okX scPeriod (fun vs H Q E h => ?_) (fun cdv A outer s H vs Q E hr h => ?_)
  · obtain ⟨v, p, q, rfl, _⟩ := h
    rfl
  · obtain ⟨v, p, q, rfl, kS, kR⟩ := h
    have hr1 : Room 1 _ := hr.mono (by decide)
    refine ⟨_, pss_cons (ps_expr (pe_call Gw hr (by rfl) mw kw bw .nil (passes_call (takes_of rfl rfl rfl rfl) (fun _ _ _ _ h => h))
        (pa_cons (pe_and (pe_cmpR op_le pe_int (pv 2) (nomark _)) (pe_and (pe_cmpR op_le (pv 2) (pe_num Cn.most_below) (nomark _)) (pe_and (pe_cmpR op_le pe_int (pv 1) (nomark _)) (pe_one (pe_cmpR op_le (pv 1) (pe_op op_mul (pe_num Cn.most_period) (pv 2)) (nomark _))))))
          (pa_cons (pe_num Cn.out) pa_nil))))
      (pss_one (ps_ret (pe_call Gf hr1 (by rfl) mf kf bf' .nil pass0 (pa_cons (pv 1) (pa_cons (pv 2) pa_nil))))), ?_⟩
    unfold EB.okPer at kS kR
    have e4 : CMul 1000 (q : Nat) := .inl ⟨by decide, by decide⟩
    refine ⟨_, rfl, _, _, rfl, rfl, _, rfl, ite_dec (fun h1 => ?_) (fun h1 => ⟨false, -1, rfl, fun z => (by cases z), fun _ => kR (by omega)⟩)⟩
    refine ⟨_, rfl, _, _, rfl, rfl, _, rfl, ite_dec (fun h2 => ?_) (fun h2 => ⟨false, -1, rfl, fun z => (by cases z), fun _ => kR (by omega)⟩)⟩
    refine ⟨_, rfl, _, _, rfl, rfl, _, rfl, ite_dec (fun h3 => ?_) (fun h3 => ⟨false, -1, rfl, fun z => (by cases z), fun _ => kR (by omega)⟩)⟩
    refine ⟨_, rfl, _, rfl, _, _, rfl, rfl, e4, _, _, rfl, rfl, _, -1, rfl, fun z => ?_, fun z => kR (by have := of_decide_eq_false z; omega)⟩
    have h4 : (p : Int) ≤ 1000 * q := of_decide_eq_true z
    exact ⟨_, rfl, _, rfl, _, q, rfl, by omega, by omega, fun r H' nr sm hf => kS ⟨by omega, by omega, by omega, by omega⟩ H' r sm nr hf⟩
/-! ### fits(self, above, below) -/
theorem scFits : FnScope ["self", "above", "below", "beats"] ["self", "above", "below"] (defScope (bm 8)) := ⟨rfl, rfl, rfl, by decide +kernel, rfl, by decide +kernel, by decide +kernel⟩
/-- a method of two numbers -/
def spTwo (C RC : Addr) (c : Nat → Nat → Sy41.Call) : Sp := fun vs H Q E => ∃ (N : Addr → Prop) (b : Addr) (s : Sy41.St) (p q : Nat), vs = [.ref b, .int (p : Nat), .int (q : Nat)] ∧ BeatAt N C H b s ∧ EB.GoodS s ∧ (∀ c, N c → H c ≠ none) ∧ Post N C RC b H s (c p q) Q E
theorem ok_fits {f : Addr} {fd : FuncData} (F : Fun K "fits" "Beat.fits" (bm 8) f fd) (T : BeatTxt K mg C) (cb : Cal P w K mg base CX0 2 "beats_by" ["stretches", "period"] spBeatsBy) (cc : Cal P w K mg base CX0 1 "counted" ["row"] spCounted)
    (cp : CalM P w K mg base (L2.CX P w) 4 C "period" ["self", "above", "below"] (spPeriod RC)) : FnOk P w K mg base (L2.CX P w) 5 f fd ["self", "above", "below"] (spTwo C RC Sy41.Call.fits) := by
  obtain ⟨fb, fdb, Gb, mb, kb, bb⟩ := cb
  obtain ⟨fc, fdc, Gc, mc, kc, bc⟩ := cc
  obtain ⟨fp, fdp, Gp, mp, bp⟩ := cp
  refine F.okX scFits (fun vs H Q E h => ?_) (fun cdv A outer s H vs Q E hr h => ?_)
  · obtain ⟨N, b, s, p, q, rfl, _⟩ := h
    rfl
  · obtain ⟨N, b, s, p, q, rfl, hB, G, hN, po⟩ := h
    have hr2 : Room 2 _ := hr.mono (by decide)
    have hr1 : Room 1 _ := hr.mono (by decide)
    refine ⟨_, pss_cons (ps_set (i := 3) scFits.nd rfl (.inl rfl) (pe_call Gb hr2 (by rfl) mb kb bb .nil pass0 (pa_cons (pe_fld (pv 0) rfl) (pa_cons (pe_meth (pv 0) T.cl mp Gp hr bp .nil (passes_call (takes_of rfl rfl rfl rfl) (fun _ _ _ _ h => h)) (pa_cons (pv 1) (pa_cons (pv 2) pa_nil))) pa_nil))))
      (pss_cons (ps_if (pt_cmpR op_isN (pv 3) pe_non (nomark _)) (pss_one (ps_ret (pe_lst (pa_cons pe_int pa_nil)))) pss_nil)
      (pss_one (ps_ret (pe_op op_cat (pe_lst (pa_cons pe_int pa_nil)) (pe_call Gc hr1 (by rfl) mc kc bc .nil pass0 (pa_cons (pv 3) pa_nil)))))), ?_⟩
    obtain ⟨dx, ps, pst, hb, hps, hnp, hst⟩ := id hB
    have fine := EB.st_fine G.g
    refine ⟨_, rfl, b, C, dx, _, _, rfl, hb, T.cl, T.nStr, bf_str, _, rfl, b, dx, _, rfl, hb, bf_no (by decide +kernel), _, rfl, _, rfl, _, p, q, rfl, fun hok H1 r s1 nr hf => ?_, fun hok => po.ref (EB.step_fits_bad hok)⟩
    have pf := EB.per_fine hok
    refine ⟨N, pst, r, _, _, rfl, hst.same s1, hf, by omega, fun x hx => EB.fine_d (fine.1 x hx), fun h0 => ?_, fun x hx pl hpl _ => ?_⟩
    · refine ⟨_, rfl, rfl, _, rfl, iteT ⟨(by show 1 ≤ sizeLine; decide), fun u nu => ?_⟩⟩
      exact po.ans (EB.step_fits_none hok h0) (s1.trans (same_upd nu)) hB (s1.free nu) upd_same
    · have hxl : x ∈ Sy41.stretches s := List.mem_of_find?_eq_some hx
      have hlen := (fine.1 x hxl).len
      have hten := G.ten
      refine ⟨_, rfl, rfl, _, rfl, iteF ?_⟩
      refine ⟨(by show 1 ≤ sizeLine; decide), fun u nu => ?_⟩
      have s2 := s1.trans (same_upd (o := .lst [.int 1]) nu)
      refine ⟨_, rfl, pl, _, rfl, same_upd nu _ _ hpl, by omega, fun H3 c s3 nc hc => ?_⟩
      refine ⟨u, c, _, _, rfl, rfl, s3 _ _ upd_same, hc, ?_, fun z nz => ?_⟩
      · show 1 + ((((x.beats.length : Nat) : Int) :: x.beats).map V.int).length ≤ sizeLine
        rw [List.length_map, List.length_cons]
        exact Nat.le_trans (show 1 + (x.beats.length + 1) ≤ 1000 by omega) (by decide)
      refine po.ans (EB.step_fits_some hok hx) ((s2.trans s3).trans (same_upd nz)) hB ((s2.trans s3).free nz) ?_
      rw [upd_same, EB.out_one]
      rfl
/-! ### bounds(self, period) -/
theorem eqv_ints (l : List Int) : PyData.eqv (.list (dInts l)) (.list []) = l.isEmpty := by
  cases l with
  | nil => simp [dInts, PyData.eqv, PyData.eqvAll]
  | cons x r => simp [dInts, PyData.eqv, PyData.eqvAll]
theorem shaped_ints (l : List Int) : SeqAt.shaped (.list (dInts l)) = true := by
  unfold SeqAt.shaped
  have h1 := dep_ints l
  have h2 : PyData.depth (.list (dInts l)) ≤ 64 := by
    simp only [PyData.depth]
    omega
  rw [decide_eq_true h2]
  simp only [PyData.canLay0, lay_ints, Bool.and_self]
theorem scBounds : FnScope ["self", "period", "beats"] ["self", "period"] (defScope (bm 10)) := ⟨rfl, rfl, rfl, by decide +kernel, rfl, by decide +kernel, by decide +kernel⟩
def spBounds (C RC : Addr) : Sp := fun vs H Q E => ∃ (N : Addr → Prop) (b pa : Addr) (s : Sy41.St) (p : Frac), vs = [.ref b, .ref pa] ∧ BeatAt N C H b s ∧ EB.GoodS s ∧ FrA H pa p ∧ 0 < p.d ∧ p.d ≤ 1000 ∧ 0 < p.n ∧ p.n ≤ 1000000 ∧
  (s.times = [] → RefE RC (-2) H E) ∧ (s.times ≠ [] → Sy41.of_ s p = none → RefE RC (-6) H E) ∧
  (s.times ≠ [] → ∀ x, Sy41.of_ s p = some x → ∀ H' r pl pm, Same H H' → H r = none → H' r = some (.tup [.ref pl, .ref pm]) → FrA H' pl (Sy41.window s p x).1 → FrA H' pm (Sy41.window s p x).2 → Q (.ref r) H')
theorem ok_bounds {f : Addr} {fd : FuncData} (F : Fun K "bounds" "Beat.bounds" (bm 10) f fd) (T : BeatTxt K mg C) (Cn : Consts mg) (cw : Cal P w K mg base (L2.CX P w) 3 "want" ["is_so", "number"] (spWant RC))
    (cb : Cal P w K mg base CX0 2 "beats_by" ["stretches", "period"] spBeatsBy) (cq : Cal P w K mg base CX0 3 "window_of" ["times", "beats", "off", "period"] (spWindowOf K)) : FnOk P w K mg base (L2.CX P w) 4 f fd ["self", "period"] (spBounds C RC) := by
  obtain ⟨fw, fdw, Gw, mw, kw, bw⟩ := cw
  obtain ⟨fb, fdb, Gb, mb, kb, bb⟩ := cb
  obtain ⟨fq, fdq, Gq, mq, kq, bq⟩ := cq
  refine F.okX scBounds (fun vs H Q E h => ?_) (fun cdv A outer s H vs Q E hr h => ?_)
  · obtain ⟨N, b, pa, s, p, rfl, _⟩ := h
    rfl
  · obtain ⟨N, b, pa, s, p, rfl, hB, G, hp, d0, d1, n0, n1, k2, k6, kS⟩ := h
    have hr2 : Room 2 _ := hr.mono (by decide)
    refine ⟨_, pss_cons (ps_expr (pe_call Gw hr (by rfl) mw kw bw .nil (passes_call (takes_of rfl rfl rfl rfl) (fun _ _ _ _ h => h)) (pa_cons (pe_cmpR (op_neD hr.units) (pe_fld (pv 0) rfl) (pe_lst pa_nil) (nomark _)) (pa_cons (pe_num Cn.none_such) pa_nil))))
      (pss_cons (ps_set (i := 2) scBounds.nd rfl (.inl rfl) (pe_call Gb hr2 (by rfl) mb kb bb .nil pass0 (pa_cons (pe_fld (pv 0) rfl) (pa_cons (pv 1) pa_nil))))
      (pss_cons (ps_expr (pe_call Gw hr (by rfl) mw kw bw .nil (passes_call (takes_of rfl rfl rfl rfl) (fun _ _ _ _ h => h)) (pa_cons (pe_cmpR op_notN (pv 2) pe_non (nomark _)) (pa_cons (pe_num Cn.no_period) pa_nil))))
      (pss_one (ps_ret (pe_call Gq hr (by rfl) mq kq bq .nil pass0 (pa_cons (pe_fld (pv 0) rfl) (pa_cons (pv 2) (pa_cons (pe_fld (pv 0) rfl) (pa_cons (pv 1) pa_nil))))))))), ?_⟩
    obtain ⟨dx, ps, pst, hb, hps, hnp, hst⟩ := id hB
    have fine := EB.st_fine G.g
    have eE : (Sy41.ints s.times).isEmpty = s.times.isEmpty := by
      unfold Sy41.ints
      cases s.times <;> rfl
    refine ⟨_, rfl, b, C, dx, _, _, rfl, hb, T.cl, T.nSeen, bf_seen, Nat.zero_le _, fun l nl => ?_⟩
    have s1 := same_upd (o := .lst []) nl
    refine ⟨_, _, .lst (SqL.of (s1 _ _ hps)) (dp_ints _), .lst (SqL.of upd_same) .nil, shaped_ints _, by decide, _, -2, rfl, fun z => ?_, fun z => (k2 ?_).same s1⟩
    rotate_left
    · rw [eqv_ints, eE] at z
      cases h : s.times with
      | nil => rfl
      | cons a r => rw [h] at z; cases z
    have hne : s.times ≠ [] := fun h => by
      rw [eqv_ints, eE, h] at z
      cases z
    generalize (upd H l (.lst []) : Hp) = H1 at *
    refine ⟨_, rfl, b, C, dx, _, _, rfl, s1 _ _ hb, T.cl, T.nStr, bf_str, _, rfl, N, pst, pa, _, p, rfl, hst.same s1, hp.same s1, by omega, fun x hx => EB.fine_d (fine.1 x hx), fun h0 => ?_, fun x hx pl hpl _ => ?_⟩
    · exact ⟨_, rfl, rfl, _, -6, rfl, fun z => (by cases z), fun _ => (k6 hne h0).same s1⟩
    · have hxl : x ∈ Sy41.stretches s := List.mem_of_find?_eq_some hx
      have hlen := (fine.1 x hxl).len
      obtain ⟨t0, m0, rest, ez⟩ := EB.zip_cons hne hlen
      have ew := EB.window_eq d0 ez
      refine ⟨_, rfl, rfl, _, -6, rfl, fun _ => ?_, fun z => (by cases z)⟩
      refine ⟨_, rfl, b, C, dx, _, _, rfl, s1 _ _ hb, T.cl, T.nSeen, bf_seen, _, rfl, _, rfl, b, C, dx, _, _, rfl, s1 _ _ hb, T.cl, T.nOff, bf_off, _, rfl, ps, pl, pa, s.times, x.beats, s.off, p, t0, m0, rest, rfl, SqL.of (s1 _ _ hps), SqL.of hpl, hlen.symm, ez, hp.same s1, d0, by omega, ⟨by omega, by omega⟩, fun H2 r q1 q2 s2 nr hr h1 h2 => ?_⟩
      rw [ez] at h1 h2
      refine kS hne x hx H2 r q1 q2 (s1.trans s2) (s1.free nr) hr ?_ ?_
      · rw [ew]
        exact h1
      · rw [ew]
        exact h2
/-! ### window(self, above, below) -/
theorem scWindow : FnScope ["self", "above", "below", "least", "most"] ["self", "above", "below"] (defScope (bm 11)) := ⟨rfl, rfl, rfl, by decide +kernel, rfl, by decide +kernel, by decide +kernel⟩
theorem ok_window {f : Addr} {fd : FuncData} (F : Fun K "window" "Beat.window" (bm 11) f fd) (T : BeatTxt K mg C) (mls : mg "list" = none) (cc : Cal P w K mg base CX0 1 "counted" ["row"] spCounted)
    (cp : CalM P w K mg base (L2.CX P w) 4 C "period" ["self", "above", "below"] (spPeriod RC)) (cb : CalM P w K mg base (L2.CX P w) 4 C "bounds" ["self", "period"] (spBounds C RC)) : FnOk P w K mg base (L2.CX P w) 5 f fd ["self", "above", "below"] (spTwo C RC Sy41.Call.window) := by
  obtain ⟨fc, fdc, Gc, mc, kc, bc⟩ := cc
  obtain ⟨fp, fdp, Gp, mp, bp⟩ := cp
  obtain ⟨fb, fdb, Gb, mb, bb⟩ := cb
  refine F.okX scWindow (fun vs H Q E h => ?_) (fun cdv A outer s H vs Q E hr h => ?_)
  · obtain ⟨N, b, s, p, q, rfl, _⟩ := h
    rfl
  · obtain ⟨N, b, s, p, q, rfl, hB, G, hN, po⟩ := h
    have hr1 : Room 1 _ := hr.mono (by decide)
    have nd := scWindow.nd
    refine ⟨_, pss_cons (ps_asg (pe_meth (pv 0) T.cl mb Gb hr bb .nil (passes_call (takes_of rfl rfl rfl rfl) (fun _ _ _ _ h => h)) (pa_cons (pe_meth (pv 0) T.cl mp Gp hr bp .nil (passes_call (takes_of rfl rfl rfl rfl) (fun _ _ _ _ h => h)) (pa_cons (pv 1) (pa_cons (pv 2) pa_nil))) pa_nil))
        (pg_tup (by rfl) (pgs_cons (pg_name (i := 3) nd rfl (.inl rfl)) (pgs_cons (pg_name (i := 4) nd rfl (.inl rfl)) pgs_nil))))
      (pss_one (ps_ret (pe_op op_cat (pe_op op_cat (pe_lst (pa_cons pe_int pa_nil)) (pe_call Gc hr1 (by rfl) mc kc bc .nil pass0 (pa_cons (pe_callTy call_list_of (by rfl) mls (by decide +kernel) (pa_cons (pv 3) pa_nil)) pa_nil)))
        (pe_call Gc hr1 (by rfl) mc kc bc .nil pass0 (pa_cons (pe_callTy call_list_of (by rfl) mls (by decide +kernel) (pa_cons (pv 4) pa_nil)) pa_nil))))), ?_⟩
    obtain ⟨dx, ps, pst, hb, hps, hnp, hst⟩ := id hB
    refine ⟨_, rfl, b, dx, _, rfl, hb, bf_no (by decide +kernel), _, rfl, b, dx, _, rfl, hb, bf_no (by decide +kernel), _, rfl, _, rfl, _, p, q, rfl, fun hok H1 r s1 nr hf => ?_, fun hok => po.ref (EB.step_window_bad hok)⟩
    have pf := EB.per_fine hok
    refine ⟨N, b, r, s, _, rfl, hB.same s1, G, hf, pf.1, pf.2.1, pf.2.2.1, pf.2.2.2, fun h0 => (po.ref (EB.step_window_nil hok h0)).same s1, fun h0 h1 => (po.ref (EB.step_window_none hok h0 h1)).same s1, fun h0 x hx H2 rr pl pm s2 nrr hrr hpl hpm => ?_⟩
    have s12 := s1.trans s2
    obtain ⟨L, M, eW⟩ : ∃ L M, Sy41.window s (Sy41.frac (p : Nat) q) x = (L, M) := ⟨_, _, rfl⟩
    have es := EB.step_window_some hok h0 hx eW
    rw [eW] at hpl hpm
    have hpl : FrA H2 pl L := hpl
    have hpm : FrA H2 pm M := hpm
    refine ⟨rr, _, rfl, SqT.of hrr, rfl, _, _, rfl, _, _, rfl, rfl, ?_⟩
    -- [0] + counted(list(least)) + counted(list(most))
    refine ⟨(by show 1 ≤ sizeLine; decide), fun u1 n1 => ?_⟩
    have t1 := same_upd (o := .lst [.int 0]) n1
    refine ⟨_, rfl, pl, _, rfl, .inr (SqT.of (hpl.same t1)), fun u2 n2 => ?_⟩
    rw [say_map] at *
    have t2 := same_upd (o := .lst ((Sy41.say L).map V.int)) n2
    refine ⟨u2, _, rfl, upd_same, (by show 2 < 16777000; decide), fun H3 u3 t3 n3 h3 => ?_⟩
    refine ⟨u1, u3, _, _, rfl, rfl, t3 _ _ (t2 _ _ upd_same), h3, (by show 1 + 3 ≤ sizeLine; decide), fun u4 n4 => ?_⟩
    have t4 := same_upd (o := .lst ([.int 0] ++ ((((Sy41.say L).length : Nat) : Int) :: Sy41.say L).map V.int)) n4
    have t14 := ((t1.trans t2).trans t3).trans t4
    refine ⟨_, rfl, pm, _, rfl, .inr (SqT.of (hpm.same t14)), fun u5 n5 => ?_⟩
    rw [say_map] at *
    have t5 := same_upd (o := .lst ((Sy41.say M).map V.int)) n5
    refine ⟨u5, _, rfl, upd_same, (by show 2 < 16777000; decide), fun H6 u6 t6 n6 h6 => ?_⟩
    refine ⟨u4, u6, _, _, rfl, rfl, t6 _ _ (t5 _ _ upd_same), h6, (by show 4 + 3 ≤ sizeLine; decide), fun u7 n7 => ?_⟩
    have t17 := s12.trans ((t14.trans t5).trans t6)
    refine po.ans es (t17.trans (same_upd n7)) hB (t17.free n7) ?_
    rw [upd_same, EB.out_two]
    simp
/-! ### later(self, above, below, time) -/
theorem scLater : FnScope ["self", "above", "below", "time", "period", "least", "most", "many"] ["self", "above", "below", "time"] (defScope (bm 12)) := ⟨rfl, rfl, rfl, by decide +kernel, rfl, by decide +kernel, by decide +kernel⟩
def spThree (C RC : Addr) (c : Nat → Nat → Nat → Sy41.Call) : Sp := fun vs H Q E => ∃ (N : Addr → Prop) (b : Addr) (s : Sy41.St) (p q t : Nat), vs = [.ref b, .int (p : Nat), .int (q : Nat), .int (t : Nat)] ∧ BeatAt N C H b s ∧ EB.GoodS s ∧ (∀ c, N c → H c ≠ none) ∧ Post N C RC b H s (c p q t) Q E
theorem ok_later {f : Addr} {fd : FuncData} (F : Fun K "later" "Beat.later" (bm 12) f fd) (T : BeatTxt K mg C) (Cn : Consts mg) (mls : mg "list" = none) (cw : Cal P w K mg base (L2.CX P w) 3 "want" ["is_so", "number"] (spWant RC)) (cc : Cal P w K mg base CX0 1 "counted" ["row"] spCounted)
    (cr : Cal P w K mg base CX0 1 "rounded_up" ["above", "below"] spRoundedUp) (cq : Cal P w K mg base CX0 2 "plus_times" ["start", "many", "one"] spPlusTimes)
    (cp : CalM P w K mg base (L2.CX P w) 4 C "period" ["self", "above", "below"] (spPeriod RC)) (cb : CalM P w K mg base (L2.CX P w) 4 C "bounds" ["self", "period"] (spBounds C RC)) : FnOk P w K mg base (L2.CX P w) 5 f fd ["self", "above", "below", "time"] (spThree C RC Sy41.Call.next) := by
  obtain ⟨fw, fdw, Gw, mw, kw, bw⟩ := cw
  obtain ⟨fc, fdc, Gc, mc, kc, bc⟩ := cc
  obtain ⟨fr, fdr, Gr, mr, kr, br⟩ := cr
  obtain ⟨fq, fdq, Gq, mq, kq, bq⟩ := cq
  obtain ⟨fp, fdp, Gp, mp, bp⟩ := cp
  obtain ⟨fb, fdb, Gb, mb, bb⟩ := cb
  refine F.okX scLater (fun vs H Q E h => ?_) (fun cdv A outer s H vs Q E hr h => ?_)
  · obtain ⟨N, b, s, p, q, t, rfl, _⟩ := h
    rfl
  · obtain ⟨N, b, s, p, q, t, rfl, hB, G, hN, po⟩ := h
    have hr1 : Room 1 _ := hr.mono (by decide)
    have hr2 : Room 2 _ := hr.mono (by decide)
    have hr3 : Room 3 _ := hr.mono (by decide)
    have nd := scLater.nd
    refine ⟨_, pss_cons (ps_set (i := 4) nd rfl (.inl rfl) (pe_meth (pv 0) T.cl mp Gp hr bp .nil (passes_call (takes_of rfl rfl rfl rfl) (fun _ _ _ _ h => h)) (pa_cons (pv 1) (pa_cons (pv 2) pa_nil))))
      (pss_cons (ps_expr (pe_call Gw hr3 (by rfl) mw kw bw .nil (passes_call (takes_of rfl rfl rfl rfl) (fun _ _ _ _ h => h)) (pa_cons (pe_cmpR op_le (pv 3) (pe_num Cn.most_time) (nomark _)) (pa_cons (pe_num Cn.out) pa_nil))))
      (pss_cons (ps_asg (pe_meth (pv 0) T.cl mb Gb hr bb .nil (passes_call (takes_of rfl rfl rfl rfl) (fun _ _ _ _ h => h)) (pa_cons (pv 4) pa_nil)) (pg_tup (by rfl) (pgs_cons (pg_name (i := 5) nd rfl (.inl rfl)) (pgs_cons (pg_name (i := 6) nd rfl (.inl rfl)) pgs_nil))))
      (pss_cons (ps_set (i := 7) nd rfl (.inl rfl) (pe_call Gr hr1 (by rfl) mr kr br .nil pass0 (pa_cons (pe_op op_mul (pe_op op_sub (pe_op op_mul (pv 3) (pe_ix ix_tup (pv 6) pe_int (fun _ _ => rfl))) (pe_ix ix_tup (pv 6) pe_int (fun _ _ => rfl))) (pe_ix ix_tup (pv 4) pe_int (fun _ _ => rfl)))
          (pa_cons (pe_op op_mul (pe_ix ix_tup (pv 6) pe_int (fun _ _ => rfl)) (pe_ix ix_tup (pv 4) pe_int (fun _ _ => rfl))) pa_nil))))
      (pss_one (ps_ret (pe_op op_cat (pe_op op_cat (pe_lst (pa_cons pe_int pa_nil)) (pe_call Gc hr1 (by rfl) mc kc bc .nil pass0 (pa_cons (pe_callTy call_list_of (by rfl) mls (by decide +kernel) (pa_cons (pe_call Gq hr2 (by rfl) mq kq bq .nil pass0 (pa_cons (pv 5) (pa_cons (pv 7) (pa_cons (pv 4) pa_nil)))) pa_nil)) pa_nil)))
        (pe_call Gc hr1 (by rfl) mc kc bc .nil pass0 (pa_cons (pe_callTy call_list_of (by rfl) mls (by decide +kernel) (pa_cons (pe_call Gq hr2 (by rfl) mq kq bq .nil pass0 (pa_cons (pv 6) (pa_cons (pv 7) (pa_cons (pv 4) pa_nil)))) pa_nil)) pa_nil)))))))), ?_⟩
    obtain ⟨dx, ps, pst, hb, hps, hnp, hst⟩ := id hB
    have fine := EB.st_fine G.g
    refine ⟨_, rfl, b, dx, _, rfl, hb, bf_no (by decide +kernel), _, rfl, _, rfl, _, p, q, rfl, fun hok H1 r s1 nr hf => ?_, fun hok => po.ref (EB.step_next_bad (.inl hok))⟩
    have pf := EB.per_fine hok
    refine ⟨_, rfl, _, _, rfl, rfl, _, -1, rfl, fun z => ?_, fun z => (po.ref (EB.step_next_bad (.inr (by have := of_decide_eq_false z; omega)))).same s1⟩
    have ht : ¬ 2000 < t := by
      have : (t : Int) ≤ 2000 := of_decide_eq_true z
      omega
    refine ⟨_, rfl, b, dx, _, rfl, s1 _ _ hb, bf_no (by decide +kernel), _, rfl, N, b, r, s, _, rfl, hB.same s1, G, hf, pf.1, pf.2.1, pf.2.2.1, pf.2.2.2, fun h0 => (po.ref (EB.step_next_nil hok ht h0)).same s1, fun h0 h1 => (po.ref (EB.step_next_none hok ht h0 h1)).same s1, fun h0 x hx H2 rr pl pm s2 nrr hrr hpl hpm => ?_⟩
    have s12 := s1.trans s2
    have hxl : x ∈ Sy41.stretches s := List.mem_of_find?_eq_some hx
    have hlen := (fine.1 x hxl).len
    obtain ⟨w1, w2, w3, w4⟩ := EB.window_fine pf.1 h0 hlen
    have en := EB.nextOf_eq pf.1 pf.2.2.1 (s := s) (x := x) (t := t) (least := (Sy41.window s (Sy41.frac (p : Nat) q) x).1) (most := (Sy41.window s (Sy41.frac (p : Nat) q) x).2) rfl w1 w3
    have es := EB.step_next_some hok ht h0 hx en
    have hf2 := hf.same s2
    generalize (Sy41.window s (Sy41.frac (p : Nat) q) x).1 = L at *
    generalize (Sy41.window s (Sy41.frac (p : Nat) q) x).2 = M at *
    obtain ⟨d0, d1, n0, n1⟩ := pf
    generalize (Sy41.frac (p : Nat) q) = f at *
    have e1 : CMul (t : Nat) (M.d : Nat) := .inr ⟨by omega, by omega⟩
    have e2 : CMul ((t : Int) * (M.d : Nat) - M.n) (f.d : Nat) := .inr ⟨by omega, by omega⟩
    have e3 : CMul (M.d : Nat) f.n := .inl ⟨by omega, by omega⟩
    have e4 : 0 < (M.d : Int) * f.n := Int.mul_pos (by omega) n0
    have e5 : (M.d : Int) * f.n < 1073741824 := by
      have := EB.mul_bound (x := (M.d : Int)) (d := f.n) (X := 1000) (D := 1000000) (by omega) (by omega) n1 (by decide)
      omega
    have e6 : L.d * f.d < 1073741824 := Nat.lt_of_le_of_lt (Nat.mul_le_mul (show L.d ≤ 1000 by omega) d1) (by decide)
    have e7 : M.d * f.d < 1073741824 := Nat.lt_of_le_of_lt (Nat.mul_le_mul (show M.d ≤ 1000 by omega) d1) (by decide)
    refine ⟨rr, _, rfl, SqT.of hrr, rfl, _, _, rfl, _, _, rfl, rfl, ?_⟩
    refine ⟨_, rfl, _, rfl, pm, _, 1, _, rfl, rfl, SqT.of hpm, rfl, _, _, rfl, rfl, e1, _, rfl, pm, _, 0, _, rfl, rfl, SqT.of hpm, rfl, _, _, rfl, rfl, _, rfl, r, _, 1, _, rfl, rfl, SqT.of hf2, rfl, _, _, rfl, rfl, e2,
      _, rfl, pm, _, 1, _, rfl, rfl, SqT.of hpm, rfl, _, rfl, r, _, 0, _, rfl, rfl, SqT.of hf2, rfl, _, _, rfl, rfl, e3, _, _, rfl, e4, e5, ?_⟩
    -- [0] + counted(list(plus_times(least, many, period))) + counted(list(plus_times(most, many, period)))
    refine ⟨(by show 1 ≤ sizeLine; decide), fun u1 n1' => ?_⟩
    have t1 := same_upd (o := .lst [.int 0]) n1'
    refine ⟨_, rfl, _, rfl, _, rfl, _, pl, r, L, f, rfl, hpl.same t1, hf2.same t1, w1, d0, by omega, by omega, e6, ⟨by omega, by omega⟩, fun v1 HA nA tA hA => ?_⟩
    refine ⟨v1, _, rfl, .inr (SqT.of hA), fun u2 n2 => ?_⟩
    rw [say_map] at *
    have t2 := same_upd (o := .lst ((Sy41.say (EB.plusT L (EB.ceilDiv (((t : Int) * (M.d : Nat) - M.n) * (f.d : Nat)) ((M.d : Nat) * f.n)) f)).map V.int)) n2
    refine ⟨u2, _, rfl, upd_same, (by show 2 < 16777000; decide), fun H3 u3 t3 n3 h3 => ?_⟩
    refine ⟨u1, u3, _, _, rfl, rfl, t3 _ _ (t2 _ _ (tA _ _ upd_same)), h3, (by show 1 + 3 ≤ sizeLine; decide), fun u4 n4 => ?_⟩
    have t4 := same_upd (o := .lst ([.int 0] ++ ((((Sy41.say (EB.plusT L (EB.ceilDiv (((t : Int) * (M.d : Nat) - M.n) * (f.d : Nat)) ((M.d : Nat) * f.n)) f)).length : Nat) : Int) :: Sy41.say (EB.plusT L (EB.ceilDiv (((t : Int) * (M.d : Nat) - M.n) * (f.d : Nat)) ((M.d : Nat) * f.n)) f)).map V.int)) n4
    have t14 := (((t1.trans tA).trans t2).trans t3).trans t4
    refine ⟨_, rfl, _, rfl, _, rfl, _, pm, r, M, f, rfl, hpm.same t14, hf2.same t14, w3, d0, by omega, by omega, e7, ⟨by omega, by omega⟩, fun v2 HB nB tB hB2 => ?_⟩
    refine ⟨v2, _, rfl, .inr (SqT.of hB2), fun u5 n5 => ?_⟩
    rw [say_map] at *
    have t5 := same_upd (o := .lst ((Sy41.say (EB.plusT M (EB.ceilDiv (((t : Int) * (M.d : Nat) - M.n) * (f.d : Nat)) ((M.d : Nat) * f.n)) f)).map V.int)) n5
    refine ⟨u5, _, rfl, upd_same, (by show 2 < 16777000; decide), fun H6 u6 t6 n6 h6 => ?_⟩
    refine ⟨u4, u6, _, _, rfl, rfl, t6 _ _ (t5 _ _ (tB _ _ upd_same)), h6, (by show 4 + 3 ≤ sizeLine; decide), fun u7 n7 => ?_⟩
    have t17 := s12.trans (((t14.trans tB).trans t5).trans t6)
    refine po.ans es (t17.trans (same_upd n7)) hB (t17.free n7) ?_
    rw [upd_same, EB.out_two]
    simp
/-! ### beats(self, number) -/
theorem scBeats : FnScope ["self", "number", "found"] ["self", "number"] (defScope (bm 13)) := ⟨rfl, rfl, rfl, by decide +kernel, rfl, by decide +kernel, by decide +kernel⟩
theorem ok_beats {f : Addr} {fd : FuncData} (F : Fun K "beats" "Beat.beats" (bm 13) f fd) (T : BeatTxt K mg C) (Cn : Consts mg) (ml : mg "len" = none) (cw : Cal P w K mg base (L2.CX P w) 3 "want" ["is_so", "number"] (spWant RC)) (cc : Cal P w K mg base CX0 1 "counted" ["row"] spCounted) :
    FnOk P w K mg base (L2.CX P w) 4 f fd ["self", "number"] (spOne C RC Sy41.Call.beats) := by
  obtain ⟨fw, fdw, Gw, mw, kw, bw⟩ := cw
  obtain ⟨fc, fdc, Gc, mc, kc, bc⟩ := cc
  refine F.okX scBeats (fun vs H Q E h => ?_) (fun cdv A outer s H vs Q E hr h => ?_)
  · obtain ⟨N, b, s, t, rfl, _⟩ := h
    rfl
  · obtain ⟨N, b, s, t, rfl, hB, G, hN, po⟩ := h
    have hr1 : Room 1 _ := hr.mono (by decide)
    refine ⟨_, pss_cons (ps_expr (pe_call Gw hr (by rfl) mw kw bw .nil (passes_call (takes_of rfl rfl rfl rfl) (fun _ _ _ _ h => h)) (pa_cons (pe_cmpR op_lt (pv 1) (pe_callB call_len_seq (by rfl) ml PySem.boot_len (pa_cons (pe_fld (pv 0) rfl) pa_nil)) (nomark _)) (pa_cons (pe_num Cn.none_such) pa_nil))))
      (pss_cons (ps_set (i := 2) scBeats.nd rfl (.inl rfl) (pe_ix ix_tup (pe_ix ix_list (pe_fld (pv 0) rfl) (pv 1) (fun _ _ => rfl)) pe_int (fun _ _ => rfl)))
      (pss_one (ps_ret (pe_op op_cat (pe_lst (pa_cons (pe_callB call_len_seq (by rfl) ml PySem.boot_len (pa_cons (pv 2) pa_nil)) pa_nil)) (pe_call Gc hr1 (by rfl) mc kc bc .nil pass0 (pa_cons (pv 2) pa_nil)))))), ?_⟩
    obtain ⟨dx, ps, pst, hb, hps, hnp, hst⟩ := id hB
    obtain ⟨qs, hq, _, hqs⟩ := id hst
    have hll : qs.length = (Sy41.stretches s).length := Paired.length hqs
    have fine := EB.st_fine G.g
    refine ⟨_, rfl, _, rfl, b, C, dx, _, _, rfl, hb, T.cl, T.nStr, bf_str, pst, _, rfl, .inl (SqL.of hq), _, _, rfl, rfl, _, -2, rfl, fun z => ?_, fun z => po.ref (EB.step_beats_none ?_)⟩
    rotate_left
    · have z := of_decide_eq_false z
      rw [List.length_map] at z
      omega
    have hlt : t < (Sy41.stretches s).length := by
      have z := of_decide_eq_true z
      rw [List.length_map] at z
      omega
    have hx := List.getElem?_eq_getElem hlt
    generalize (Sy41.stretches s)[t] = x at hx
    obtain ⟨q, hqi, pa, pb, pl, h1, h2, h3, h4, h5⟩ := paired_get hqs hx
    have hlen := (fine.1 x (List.mem_of_getElem? hx)).len
    have ten := G.ten
    refine ⟨_, rfl, b, C, dx, _, _, rfl, hb, T.cl, T.nStr, bf_str, _, rfl, pst, _, _, _, rfl, rfl, SqL.of hq, atI_nat (map_get hqi), q, _, 2, _, rfl, rfl, SqT.of h1, rfl, ?_⟩
    refine ⟨_, rfl, pl, _, rfl, .inl (SqL.of h4), (by show 1 ≤ sizeLine; decide), fun u nu => ?_⟩
    have s1 := same_upd (o := .lst [.int ((x.beats.map V.int).length : Nat)]) nu
    refine ⟨_, rfl, pl, _, rfl, s1 _ _ h4, by omega, fun H3 c s3 nc hc => ?_⟩
    refine ⟨u, c, _, _, rfl, rfl, s3 _ _ upd_same, hc, ?_, fun z nz => ?_⟩
    · show 1 + ((((x.beats.length : Nat) : Int) :: x.beats).map V.int).length ≤ sizeLine
      rw [List.length_map, List.length_cons]
      exact Nat.le_trans (show 1 + (x.beats.length + 1) ≤ 1000 by omega) (by decide)
    refine po.ans (EB.step_beats_some hx) ((s1.trans s3).trans (same_upd nz)) hB ((s1.trans s3).free nz) ?_
    rw [upd_same, EB.out_one, List.length_map]
    rfl
end
end EW

namespace EW
open PySem PySem.Spec PyProof.Rows L2
open Sy41 (Frac Stretch)
open EB (Red)
section
variable {P : Program} {w : World} {K : PySem.W.Frag} {mg : Str → Option Value} {base : Heap} {C RC fI : Addr}
/-! ### on_time(self, call, time) -/
theorem scOnTime : FnScope ["self", "call", "time"] ["self", "call", "time"] (defScope (bm 14)) := ⟨rfl, rfl, rfl, by decide +kernel, rfl, by decide +kernel, by decide +kernel⟩
def spOnTime (C RC : Addr) : Sp := fun vs H Q E => ∃ (N : Addr → Prop) (b : Addr) (s : Sy41.St) (k : Int) (t : Nat) (c : Sy41.Call), vs = [.ref b, .int k, .int (t : Nat)] ∧ BeatAt N C H b s ∧ EB.GoodS s ∧ (∀ c, N c → H c ≠ none) ∧
  ((k = 1 ∧ c = .seen t) ∨ (k = 2 ∧ c = .drop t) ∨ (k = 5 ∧ c = .could t)) ∧ Post N C RC b H s c Q E
theorem ok_on_time {f : Addr} {fd : FuncData} (F : Fun K "on_time" "Beat.on_time" (bm 14) f fd) (T : BeatTxt K mg C) (c1 : CalM P w K mg base (L2.CX P w) 8 C "see" ["self", "time"] (spOne C RC Sy41.Call.seen)) (c2 : CalM P w K mg base (L2.CX P w) 8 C "drop" ["self", "time"] (spOne C RC Sy41.Call.drop))
    (c3 : CalM P w K mg base (L2.CX P w) 7 C "could" ["self", "time"] (spOne C RC Sy41.Call.could)) : FnOk P w K mg base (L2.CX P w) 9 f fd ["self", "call", "time"] (spOnTime C RC) := by
  obtain ⟨f1, fd1, G1, m1, b1⟩ := c1
  obtain ⟨f2, fd2, G2, m2, b2⟩ := c2
  obtain ⟨f3, fd3, G3, m3, b3⟩ := c3
  refine F.okX scOnTime (fun vs H Q E h => ?_) (fun cdv A outer s H vs Q E hr h => ?_)
  · obtain ⟨N, b, s, k, t, c, rfl, _⟩ := h
    rfl
  · obtain ⟨N, b, s, k, t, c, rfl, hB, G, hN, hk, po⟩ := h
    have hr7 : Room 7 _ := hr.mono (by decide)
    refine ⟨_, pss_cons (ps_if (pt_cmpR op_eq (pv 1) pe_int (nomark _)) (pss_one (ps_ret (pe_meth (pv 0) T.cl m1 G1 hr b1 .nil (passes_call (takes_of rfl rfl rfl rfl) (fun _ _ _ _ h => h)) (pa_cons (pv 2) pa_nil)))) pss_nil)
      (pss_cons (ps_if (pt_cmpR op_eq (pv 1) pe_int (nomark _)) (pss_one (ps_ret (pe_meth (pv 0) T.cl m2 G2 hr b2 .nil (passes_call (takes_of rfl rfl rfl rfl) (fun _ _ _ _ h => h)) (pa_cons (pv 2) pa_nil)))) pss_nil)
      (pss_one (ps_ret (pe_meth (pv 0) T.cl m3 G3 hr7 b3 .nil (passes_call (takes_of rfl rfl rfl rfl) (fun _ _ _ _ h => h)) (pa_cons (pv 2) pa_nil))))), ?_⟩
    obtain ⟨dx, ps, pst, hb, _⟩ := id hB
    refine ⟨_, rfl, rfl, _, rfl, ite_eq (fun e => ?_) (fun e => ?_)⟩
    · obtain ⟨_, rfl⟩ | ⟨h, _⟩ | ⟨h, _⟩ := hk
      · exact ⟨_, rfl, b, dx, _, rfl, hb, bf_no (by decide +kernel), _, rfl, N, b, s, t, rfl, hB, G, hN, po⟩
      · omega
      · omega
    · refine ⟨_, rfl, rfl, _, rfl, ite_eq (fun e2 => ?_) (fun e2 => ?_)⟩
      · obtain ⟨h, _⟩ | ⟨_, rfl⟩ | ⟨h, _⟩ := hk
        · omega
        · exact ⟨_, rfl, b, dx, _, rfl, hb, bf_no (by decide +kernel), _, rfl, N, b, s, t, rfl, hB, G, hN, po⟩
        · omega
      · obtain ⟨h, _⟩ | ⟨h, _⟩ | ⟨_, rfl⟩ := hk
        · omega
        · omega
        · exact ⟨_, rfl, b, dx, _, rfl, hb, bf_no (by decide +kernel), _, rfl, N, b, s, t, rfl, hB, G, hN, po⟩
/-! ### answered(self, call, numbers) -/
theorem scAnswered : FnScope ["self", "call", "numbers"] ["self", "call", "numbers"] (defScope (bm 15)) := ⟨rfl, rfl, rfl, by decide +kernel, rfl, by decide +kernel, by decide +kernel⟩
def spAnswered (K : PySem.W.Frag) (C RC : Addr) : Sp := fun vs H Q E => ∃ (N : Addr → Prop) (b pn : Addr) (s : Sy41.St) (k : Int) (xs : List Int) (c : Sy41.Call), vs = [.ref b, .int k, .ref pn] ∧ SqL K H pn (xs.map V.int) ∧ EB.CallIs k xs c ∧ BeatAt N C H b s ∧ EB.GoodS s ∧ (∀ c, N c → H c ≠ none) ∧ Post N C RC b H s c Q E
/-- what answered calls -/
structure Meths (P : Program) (w : World) (K : PySem.W.Frag) (mg : Str → Option Value) (base : Heap) (C RC : Addr) : Prop where
  begin : CalM P w K mg base (L2.CX P w) 8 C "begin" ["self", "low", "high", "off"] (spBegin C RC)
  onTime : CalM P w K mg base (L2.CX P w) 9 C "on_time" ["self", "call", "time"] (spOnTime C RC)
  periods : CalM P w K mg base (L2.CX P w) 2 C "periods" ["self"] (spNone C RC .periods)
  fits : CalM P w K mg base (L2.CX P w) 5 C "fits" ["self", "above", "below"] (spTwo C RC Sy41.Call.fits)
  window : CalM P w K mg base (L2.CX P w) 5 C "window" ["self", "above", "below"] (spTwo C RC Sy41.Call.window)
  beats : CalM P w K mg base (L2.CX P w) 4 C "beats" ["self", "number"] (spOne C RC Sy41.Call.beats)
  later : CalM P w K mg base (L2.CX P w) 5 C "later" ["self", "above", "below", "time"] (spThree C RC Sy41.Call.next)
theorem ok_answered {f : Addr} {fd : FuncData} (F : Fun K "answered" "Beat.answered" (bm 15) f fd) (T : BeatTxt K mg C) (ml : mg "len" = none) (mi : mg "int" = none) (mls : mg "list" = none) (cc : Cal P w K mg base CX0 1 "counted" ["row"] spCounted) (M : Meths P w K mg base C RC) :
    FnOk P w K mg base (L2.CX P w) 10 f fd ["self", "call", "numbers"] (spAnswered K C RC) := by
  obtain ⟨fc, fdc, Gc, mc, kc, bc⟩ := cc
  obtain ⟨f1, fd1, G1, m1, b1⟩ := M.begin
  obtain ⟨f2, fd2, G2, m2, b2⟩ := M.onTime
  obtain ⟨f3, fd3, G3, m3, b3⟩ := M.periods
  obtain ⟨f4, fd4, G4, m4, b4⟩ := M.fits
  obtain ⟨f5, fd5, G5, m5, b5⟩ := M.window
  obtain ⟨f6, fd6, G6, m6, b6⟩ := M.beats
  obtain ⟨f7, fd7, G7, m7, b7⟩ := M.later
  refine F.okX scAnswered (fun vs H Q E h => ?_) (fun cdv A outer s H vs Q E hr h => ?_)
  · obtain ⟨N, b, pn, s, k, xs, c, rfl, _⟩ := h
    rfl
  · obtain ⟨N, b, pn, s, k, xs, c, rfl, hP, hc, hB, G, hN, po⟩ := h
    have r1 : Room 1 _ := hr.mono (by decide)
    have r2 : Room 2 _ := hr.mono (by decide)
    have r4 : Room 4 _ := hr.mono (by decide)
    have r5 : Room 5 _ := hr.mono (by decide)
    have r8 : Room 8 _ := hr.mono (by decide)
    refine ⟨_, pss_cons (ps_if (pt_cmpR op_eq (pv 1) pe_int (nomark _)) (pss_one (ps_ret (pe_meth (pv 0) T.cl m1 G1 r8 b1 .nil (passes_call (takes_of rfl rfl rfl rfl) (fun _ _ _ _ h => h)) (pa_cons (pe_ix ix_list (pv 2) pe_int (fun _ _ => rfl)) (pa_cons (pe_ix ix_list (pv 2) pe_int (fun _ _ => rfl)) (pa_cons (pe_ix ix_list (pv 2) pe_int (fun _ _ => rfl)) pa_nil)))))) pss_nil)
      (pss_cons (ps_if (pt_cmpR op_in_seq (pv 1) (pe_tup (pa_cons pe_int (pa_cons pe_int (pa_cons pe_int pa_nil)))) (by rfl)) (pss_one (ps_ret (pe_meth (pv 0) T.cl m2 G2 hr b2 .nil (passes_call (takes_of rfl rfl rfl rfl) (fun _ _ _ _ h => h)) (pa_cons (pv 1) (pa_cons (pe_ix ix_list (pv 2) pe_int (fun _ _ => rfl)) pa_nil))))) pss_nil)
      (pss_cons (ps_if (pt_cmpR op_eq (pv 1) pe_int (nomark _)) (pss_one (ps_ret (pe_meth0 (pv 0) T.cl m3 G3 r2 b3 .nil (passes_call (takes_of rfl rfl rfl rfl) (fun _ _ _ _ h => h))))) pss_nil)
      (pss_cons (ps_if (pt_cmpR op_eq (pv 1) pe_int (nomark _)) (pss_one (ps_ret (pe_meth (pv 0) T.cl m4 G4 r5 b4 .nil (passes_call (takes_of rfl rfl rfl rfl) (fun _ _ _ _ h => h)) (pa_cons (pe_ix ix_list (pv 2) pe_int (fun _ _ => rfl)) (pa_cons (pe_ix ix_list (pv 2) pe_int (fun _ _ => rfl)) pa_nil))))) pss_nil)
      (pss_cons (ps_if (pt_cmpR op_eq (pv 1) pe_int (nomark _)) (pss_one (ps_ret (pe_meth (pv 0) T.cl m5 G5 r5 b5 .nil (passes_call (takes_of rfl rfl rfl rfl) (fun _ _ _ _ h => h)) (pa_cons (pe_ix ix_list (pv 2) pe_int (fun _ _ => rfl)) (pa_cons (pe_ix ix_list (pv 2) pe_int (fun _ _ => rfl)) pa_nil))))) pss_nil)
      (pss_cons (ps_if (pt_cmpR op_eq (pv 1) pe_int (nomark _)) (pss_one (ps_ret (pe_meth (pv 0) T.cl m6 G6 r4 b6 .nil (passes_call (takes_of rfl rfl rfl rfl) (fun _ _ _ _ h => h)) (pa_cons (pe_ix ix_list (pv 2) pe_int (fun _ _ => rfl)) pa_nil)))) pss_nil)
      (pss_cons (ps_if (pt_cmpR op_eq (pv 1) pe_int (nomark _)) (pss_one (ps_ret (pe_meth (pv 0) T.cl m7 G7 r5 b7 .nil (passes_call (takes_of rfl rfl rfl rfl) (fun _ _ _ _ h => h)) (pa_cons (pe_ix ix_list (pv 2) pe_int (fun _ _ => rfl)) (pa_cons (pe_ix ix_list (pv 2) pe_int (fun _ _ => rfl)) (pa_cons (pe_ix ix_list (pv 2) pe_int (fun _ _ => rfl)) pa_nil)))))) pss_nil)
      (pss_cons (ps_if (pt_cmpR op_eq (pv 1) pe_int (nomark _)) (pss_one (ps_ret (pe_lst (pa_cons (pe_callTy call_int1 (by rfl) mi (by decide +kernel) (pa_cons (pe_cmpR op_eq (pe_callB call_len_seq (by rfl) ml PySem.boot_len (pa_cons (pe_fld (pv 0) rfl) pa_nil)) pe_int (nomark _)) pa_nil)) pa_nil)))) pss_nil)
      (pss_one (ps_ret (pe_op op_cat (pe_lst (pa_cons (pe_callB call_len_seq (by rfl) ml PySem.boot_len (pa_cons (pe_fld (pv 0) rfl) pa_nil)) pa_nil)) (pe_call Gc r1 (by rfl) mc kc bc .nil pass0 (pa_cons (pe_callTy call_list_of (by rfl) mls (by decide +kernel) (pa_cons (pe_fld (pv 0) rfl) pa_nil)) pa_nil)))))))))))), ?_⟩
    obtain ⟨dx, ps, pst, hb, hps, hnp, hst⟩ := id hB
    obtain ⟨qs, hq, _, hqs⟩ := id hst
    -- call == 0
    refine ⟨_, rfl, rfl, _, rfl, ite_eq (fun e => ?_) (fun e0 => ?_)⟩
    · cases hc <;> first | (exfalso; omega) | skip
      rename_i a b' c'
      exact ⟨_, rfl, b, dx, _, rfl, hb, bf_no (by decide +kernel), _, rfl, pn, _, 0, _, rfl, rfl, hP, rfl, _, rfl, pn, _, 1, _, rfl, rfl, hP, rfl, _, rfl, pn, _, 2, _, rfl, rfl, hP, rfl, N, b, s, a, b', c', rfl, hB, G, hN, po⟩
    -- call in (1, 2, 5)
    refine ⟨_, rfl, (by show 3 ≤ sizeLine; decide), fun tt ntt => ?_⟩
    have st := same_upd (o := .tup [.int 1, .int 2, .int 5]) ntt
    refine ⟨tt, _, rfl, .inr (SqT.of upd_same), rfl, rfl, _, rfl, ?_⟩
    have po1 : Post N C RC b (upd H tt (.tup [.int 1, .int 2, .int 5])) s c Q E := ⟨fun H' p k np hp hB' => po.1 H' p ((Kb.of st).trans k) (st.free np) hp hB', fun n h1 h2 => (po.2 n h1 h2).same st⟩
    have hN1 : ∀ c, N c → (upd H tt (.tup [.int 1, .int 2, .int 5])) c ≠ none := fun c hc z => hN c hc (st.free z)
    have hB1 := hB.same st
    have hb1 := st _ _ hb
    have hP1 := st.seq hP
    have hq1 := st _ _ hq
    have hps1 := st _ _ hps
    generalize (upd H tt (.tup [.int 1, .int 2, .int 5]) : Hp) = H1 at *
    have ein : inV (.int k) [.int 1, .int 2, .int 5] = decide (k = 1 ∨ k = 2 ∨ k = 5) := by
      show ((1 : Int) == k || ((2 : Int) == k || ((5 : Int) == k || false))) = _
      rw [Bool.eq_iff_iff]
      simp only [Bool.or_eq_true, beq_iff_eq, decide_eq_true_eq, Bool.or_false]
      omega
    show if (inV (.int k) [.int 1, .int 2, .int 5]) = true then _ else _
    rw [ein]
    refine ite_dec (fun hk => ?_) (fun hk => ?_)
    · cases hc <;> first | (exfalso; omega) | skip
      · rename_i a
        exact ⟨_, rfl, b, dx, _, rfl, hb1, bf_no (by decide +kernel), _, rfl, _, rfl, pn, _, 0, _, rfl, rfl, hP1, rfl, N, b, s, _, a, _, rfl, hB1, G, hN1, .inl ⟨rfl, rfl⟩, po1⟩
      · rename_i a
        exact ⟨_, rfl, b, dx, _, rfl, hb1, bf_no (by decide +kernel), _, rfl, _, rfl, pn, _, 0, _, rfl, rfl, hP1, rfl, N, b, s, _, a, _, rfl, hB1, G, hN1, .inr (.inl ⟨rfl, rfl⟩), po1⟩
      · rename_i a
        exact ⟨_, rfl, b, dx, _, rfl, hb1, bf_no (by decide +kernel), _, rfl, _, rfl, pn, _, 0, _, rfl, rfl, hP1, rfl, N, b, s, _, a, _, rfl, hB1, G, hN1, .inr (.inr ⟨rfl, rfl⟩), po1⟩
    -- call == 3
    refine ⟨_, rfl, rfl, _, rfl, ite_eq (fun e => ?_) (fun e3 => ?_)⟩
    · cases hc <;> first | (exfalso; omega) | skip
      exact ⟨_, rfl, b, dx, _, rfl, hb1, bf_no (by decide +kernel), N, b, s, rfl, hB1, G, hN1, po1⟩
    -- call == 4
    refine ⟨_, rfl, rfl, _, rfl, ite_eq (fun e => ?_) (fun e4 => ?_)⟩
    · cases hc <;> first | (exfalso; omega) | skip
      rename_i a b'
      exact ⟨_, rfl, b, dx, _, rfl, hb1, bf_no (by decide +kernel), _, rfl, pn, _, 0, _, rfl, rfl, hP1, rfl, _, rfl, pn, _, 1, _, rfl, rfl, hP1, rfl, N, b, s, a, b', rfl, hB1, G, hN1, po1⟩
    -- call == 6
    refine ⟨_, rfl, rfl, _, rfl, ite_eq (fun e => ?_) (fun e6 => ?_)⟩
    · cases hc <;> first | (exfalso; omega) | skip
      rename_i a b'
      exact ⟨_, rfl, b, dx, _, rfl, hb1, bf_no (by decide +kernel), _, rfl, pn, _, 0, _, rfl, rfl, hP1, rfl, _, rfl, pn, _, 1, _, rfl, rfl, hP1, rfl, N, b, s, a, b', rfl, hB1, G, hN1, po1⟩
    -- call == 7
    refine ⟨_, rfl, rfl, _, rfl, ite_eq (fun e => ?_) (fun e7 => ?_)⟩
    · cases hc <;> first | (exfalso; omega) | skip
      rename_i a
      exact ⟨_, rfl, b, dx, _, rfl, hb1, bf_no (by decide +kernel), _, rfl, pn, _, 0, _, rfl, rfl, hP1, rfl, N, b, s, a, rfl, hB1, G, hN1, po1⟩
    -- call == 8
    refine ⟨_, rfl, rfl, _, rfl, ite_eq (fun e => ?_) (fun e8 => ?_)⟩
    · cases hc <;> first | (exfalso; omega) | skip
      rename_i a b' c'
      exact ⟨_, rfl, b, dx, _, rfl, hb1, bf_no (by decide +kernel), _, rfl, pn, _, 0, _, rfl, rfl, hP1, rfl, _, rfl, pn, _, 1, _, rfl, rfl, hP1, rfl, _, rfl, pn, _, 2, _, rfl, rfl, hP1, rfl, N, b, s, a, b', c', rfl, hB1, G, hN1, po1⟩
    -- call == 9
    refine ⟨_, rfl, rfl, _, rfl, ite_eq (fun e => ?_) (fun e9 => ?_)⟩
    · cases hc <;> first | (exfalso; omega) | skip
      refine ⟨_, rfl, b, C, dx, _, _, rfl, hb1, T.cl, T.nStr, bf_str, pst, _, rfl, .inl (SqL.of hq1), rfl, .inr ⟨_, rfl, (by show 1 ≤ sizeLine; decide), fun p np => ?_⟩⟩
      refine po1.ans EB.step_alone (same_upd np) hB1 np ?_
      rw [upd_same, List.length_map, Paired.length hqs, EB.out_ok]
      congr 3
      by_cases h : (Sy41.stretches s).length = 1
      · rw [if_pos h, h]
        rfl
      · rw [if_neg h, decide_eq_false (fun z => h (by have := V.int.inj z; omega))]
        rfl
    -- times
    cases hc <;> first | (exfalso; omega) | skip
    have ten := G.ten
    refine ⟨_, rfl, b, C, dx, _, _, rfl, hb1, T.cl, T.nSeen, bf_seen, ps, _, rfl, .inl (SqL.of hps1), (by show 1 ≤ sizeLine; decide), fun u nu => ?_⟩
    have s1 := same_upd (o := .lst [.int ((nts s.times).length : Nat)]) nu
    refine ⟨_, rfl, b, C, dx, _, _, rfl, s1 _ _ hb1, T.cl, T.nSeen, bf_seen, ps, _, rfl, .inl (SqL.of (s1 _ _ hps1)), fun l nl => ?_⟩
    have s2 := s1.trans (same_upd (o := .lst (nts s.times)) nl)
    have hil : (Sy41.ints s.times).length = s.times.length := List.length_map ..
    refine ⟨l, Sy41.ints s.times, rfl, upd_same, by omega, fun H3 c s3 nc hc => ?_⟩
    refine ⟨u, c, _, _, rfl, rfl, s3 _ _ (same_upd nl _ _ upd_same), hc, ?_, fun z nz => ?_⟩
    · show 1 + (((((Sy41.ints s.times).length : Nat) : Int) :: Sy41.ints s.times).map V.int).length ≤ sizeLine
      rw [List.length_map, List.length_cons]
      exact Nat.le_trans (show 1 + ((Sy41.ints s.times).length + 1) ≤ 1000 by omega) (by decide)
    refine po1.ans EB.step_times ((s2.trans s3).trans (same_upd nz)) hB1 ((s2.trans s3).free nz) ?_
    rw [upd_same, EB.out_one, nts_length]
    rfl
/-! ### answer(self, call, numbers) -/
theorem scAnswer : FnScope ["self", "call", "numbers", "e"] ["self", "call", "numbers"] (defScope (bm 16)) := ⟨rfl, rfl, rfl, by decide +kernel, rfl, by decide +kernel, by decide +kernel⟩
def spAnswer (K : PySem.W.Frag) (C : Addr) : Sp := fun vs H Q _ => ∃ (N : Addr → Prop) (b pn : Addr) (s : Sy41.St) (k : Int) (xs : List Int) (c : Sy41.Call), vs = [.ref b, .int k, .ref pn] ∧ SqL K H pn (xs.map V.int) ∧ EB.CallIs k xs c ∧ BeatAt N C H b s ∧ EB.GoodS s ∧ (∀ c, N c → H c ≠ none) ∧
  ∀ H' p, Kb b H H' → H p = none → H' p = some (.lst ((Sy41Neutral.out (Sy41.step s c).2).map V.int)) → BeatAt N C H' b (Sy41.step s c).1 → Q (.ref p) H'
theorem ok_answer {f : Addr} {fd : FuncData} (F : Fun K "answer" "Beat.answer" (bm 16) f fd) (T : BeatTxt K mg C) (RT : RefTxt K mg RC fI) (ca : CalM P w K mg base (L2.CX P w) 10 C "answered" ["self", "call", "numbers"] (spAnswered K C RC)) :
    FnOk P w K mg base CX0 11 f fd ["self", "call", "numbers"] (spAnswer K C) := by
  obtain ⟨f1, fd1, G1, m1, b1⟩ := ca
  refine F.ok scAnswer (fun vs H Q E h => ?_) (fun cdv A outer s H vs Q E hr h => ?_)
  · obtain ⟨N, b, pn, s, k, xs, c, rfl, _⟩ := h
    rfl
  · obtain ⟨N, b, pn, s, k, xs, c, rfl, hP, hc, hB, G, hN, kS⟩ := h
    refine ⟨_, pss_one (ps_try_as (i := 3) (tb := fun W => tRet (tMeth C "answered" (spAnswered K C RC) [] (fun cls d H => ∀ σ : L2.St, σ.length = 4 → W cls d σ H) (tVar 0) (tCons (tVar 1) (tCons (tVar 2) tNil))))
      (ts := fun a cls d => tRet (tLst (tCons (tXf a cls d RC "number" (tVar 3)) tNil))) (Wout := fun _ _ _ _ => False) rfl rfl scAnswer.nd rfl rfl ⟨rfl, by decide, Or.inl RT.gC⟩ takes0
      (fun W pn xe tk _ => pss_one (ps_ret (pe_meth (pv 0) T.cl m1 G1 hr b1 .nil (fun pins σ H s e s' I c => tk e s' (XE.of_call I (fun cls d H' h => h σ I.len) c)) (by exact (pa_cons (pv 1) (pa_cons (pv 2) pa_nil))))))
      (fun a oe cls d pn hz hf => pss_one (ps_ret (pe_lst (by exact (pa_cons (pe_xf RT.xf RT.noN hz hf (pv 3)) pa_nil)))))), ?_⟩
    obtain ⟨dx, ps, pst, hb, _⟩ := id hB
    refine ⟨_, rfl, b, dx, _, rfl, hb, bf_no (by decide +kernel), _, rfl, _, rfl, N, b, pn, s, k, xs, c, rfl, hP, hc, hB, G, hN, kS, fun n h1 h2 d H' fs sm hd hl σ hσ => ?_⟩
    refine ⟨true, RT.te, fun _ a ha => ?_, fun q => Bool.noConfusion q⟩
    refine ⟨_, (List.getElem?_set_self (show 3 < σ.length by omega)), rfl, rfl, d, fs, _, rfl, hd, hl, (by show 1 ≤ sizeLine; decide), fun p np => ?_⟩
    refine kS _ p (Kb.of (sm.trans (same_upd np))) (sm.free np) ?_ ?_
    · rw [h1]
      exact upd_same
    · rw [h2]
      exact (hB.same sm).same (same_upd np)
end
end EW

namespace EW
open PySem PySem.Spec PyProof.Rows L2
open Sy41 (Frac Stretch)
open EB (Red)
theorem BeatAt.kp {N : Addr → Prop} {C b D : Addr} {H : Hp} {s : Sy41.St} {xs ys : List V} (h : BeatAt N C H b s) (hN : N D) (hD : H D = some (.lst xs)) : BeatAt N C (upd H D (.lst ys)) b s := by
  obtain ⟨dx, ps, pst, h1, h2, h3, h4⟩ := h
  refine ⟨dx, ps, pst, ?_, ?_, h3, h4.kp (Kp.list hN hD)⟩
  · rw [upd_ne (ne_of h1 hD (by intro z; cases z))]
    exact h1
  · rw [upd_ne (show ps ≠ D from fun z => h3 (z ▸ hN))]
    exact h2
theorem cut_mid (l : List Int) (i n : Nat) : cutV (l.map V.int) (some (i : Int)) (some ((i : Int) + (n : Int))) = ((l.drop i).take n).map V.int := by
  unfold cutV
  have e : (i : Int) + (n : Int) = ((i + n : Nat) : Int) := by omega
  rw [e, HT.sIx_nat, HT.sIx_nat, List.length_map, List.map_take, List.map_drop]
  rcases Nat.le_total i l.length with h | h
  · rw [Nat.min_eq_left h]
    rcases Nat.le_total (i + n) l.length with h2 | h2
    · rw [Nat.min_eq_left h2]
      congr 1
      omega
    · rw [Nat.min_eq_right h2, List.take_of_length_le, List.take_of_length_le]
      · rw [List.length_drop, List.length_map]; omega
      · rw [List.length_drop, List.length_map]; omega
  · rw [Nat.min_eq_right h, List.drop_eq_nil_of_le (by rw [List.length_map]; omega), List.drop_eq_nil_of_le (by rw [List.length_map]; omega)]
    simp
/-- what the top has written of the table of numbers told -/
structure ToldTxt (K : PySem.W.Frag) (mg : Str → Option Value) (aT : Addr) : Prop where
  gT : mg "NUMBERS_TOLD" = some (.ref aT)
  at_ : ∀ H, SqT K H aT (EB.told.map V.int)
section
variable {P : Program} {w : World} {K : PySem.W.Frag} {mg : Str → Option Value} {base : Heap} {C RC fI aT : Addr}
theorem scAnswers : FnScope ["calls", "beat", "found", "at", "call", "numbers", "one"] ["calls"] (defScope sAnswers) := ⟨rfl, rfl, rfl, by decide +kernel, rfl, by decide +kernel, by decide +kernel⟩
def spAnswers (K : PySem.W.Frag) : Sp := fun vs H Q _ => ∃ (a : Addr) (l : List Int), vs = [.ref a] ∧ SqL K H a (l.map V.int) ∧ l.length ≤ 500 ∧ PySy41.answers_asked l = true ∧ ∀ H' p, H' p = some (.lst ((PySy41.answers l).map V.int)) → Q (.ref p) H'
theorem ok_answers {f f0 : Addr} {fd fd0 : FuncData} (F : Fun K "answers" "answers" sAnswers f fd) (T : BeatTxt K mg C) (TT : ToldTxt K mg aT) (ml : mg "len" = none) (M : Mk K C f0) (G0 : FnOk P w K mg base CX0 6 f0 fd0 ["self"] (spInit C)) (b0 : Binds K fd0 ["self"] [])
    (ca : CalM P w K mg base CX0 11 C "answer" ["self", "call", "numbers"] (spAnswer K C)) : FnOk P w K mg base CX0 12 f fd ["calls"] (spAnswers K) := by
  obtain ⟨f1, fd1, G1, m1, b1⟩ := ca
  refine F.ok scAnswers (fun vs H Q E h => ?_) (fun cdv A outer s H vs Q E hr h => ?_)
  · obtain ⟨a, l, rfl, _⟩ := h
    rfl
  · obtain ⟨a, l, rfl, hL, hlen, hask, k⟩ := h
    have nd := scAnswers.nd
    have r7 : Room 7 _ := hr.mono (by decide)
    refine ⟨_, pss_cons (ps_set (i := 1) nd rfl (.inl rfl) (pe_make0 M G0 r7 (by rfl) T.gC b0 .nil pass0))
      (pss_cons (ps_set (i := 2) nd rfl (.inl rfl) (pe_lst pa_nil))
      (pss_cons (ps_set (i := 3) nd rfl (.inl rfl) pe_int)
      (pss_cons (ps_while PassesOwn.never (pt_cmpR op_lt (pv 3) (pe_callB call_len_seq (by rfl) ml PySem.boot_len (pa_cons (pv 0) pa_nil)) (nomark _))
        (pss_cons (ps_set (i := 4) nd rfl (.inl rfl) (pe_ix ix_list (pv 0) (pv 3) (fun _ _ => rfl)))
        (pss_cons (ps_aug (i := 3) nd rfl (.inl rfl) pe_int ip_add)
        (pss_cons (ps_set (i := 5) nd rfl (.inl rfl) (pe_slice sl_list (pv 0) (po_some (pv 3)) (po_some (pe_op op_add (pv 3) (pe_ix ix_tup (pe_glob (v := .ref aT) (by rfl) TT.gT rfl) (pv 4) (fun _ _ => rfl))))))
        (pss_cons (ps_aug (i := 3) nd rfl (.inl rfl) (pe_ix ix_tup (pe_glob (v := .ref aT) (by rfl) TT.gT rfl) (pv 4) (fun _ _ => rfl)) ip_add)
        (pss_cons (ps_set (i := 6) nd rfl (.inl rfl) (pe_meth (pv 1) T.cl m1 G1 hr b1 .nil pass0 (pa_cons (pv 4) (pa_cons (pv 5) pa_nil))))
        (pss_cons (ps_expr (pe_bm PySem.F.plainAttrs_list PySem.F.slot_list_append PySem.F.type_list_append mt_append (pv 2) (pa_cons (pe_callB call_len_seq (by rfl) ml PySem.boot_len (pa_cons (pv 6) pa_nil)) pa_nil)))
        (pss_one (ps_expr (pe_bm PySem.F.plainAttrs_list PySem.F.slot_list_extend PySem.F.type_list_extend mt_extend (pv 2) (pa_cons (pv 6) pa_nil)))))))))))
      (pss_one (ps_ret (pv 2)))))), ?_⟩
    obtain ⟨cs0, hl0, hans, hmax⟩ := EB.left_start hask
    -- beat = Beat()
    intro x dx nx ndx nex
    have s0 : Same H (upd (upd H dx (.own x)) x (.ins C dx [])) := fun b o e => by
      rw [upd_ne (ne_of_none e nx), upd_ne (ne_of_none e ndx)]
      exact e
    refine ⟨fun b => H b ≠ none, x, dx, rfl, upd_same, fun b hb z => hb (s0.free z), fun H1 kb hB1 => ⟨rfl, ?_⟩⟩
    obtain ⟨o1, hx1⟩ := id hB1.ins
    have s1 : Same H H1 := fun b o e => kb b o (ne_of_none e nx) (s0 _ _ e)
    -- found = []
    refine ⟨Nat.zero_le _, fun D nD => ?_⟩
    have sD := same_upd (o := .lst []) nD
    have hB2 : BeatAt (fun b => b = D) C (upd H1 D (.lst [])) x Sy41.init := by
      obtain ⟨dx1, ps, pst, g1, g2, g3, g4⟩ := hB1
      exact ⟨dx1, ps, pst, sD _ _ g1, sD _ _ g2, (fun z => by rw [z, nD] at g2; cases g2), (g4.imp (N' := fun b => b = D) (fun b xs hb z => by rw [z, nD] at hb; cases hb)).same sD⟩
    -- the while
    refine ⟨fun m σ H' => ∃ (i : Nat) (done : List Int) (s : Sy41.St) (cs : List (List (List Int))) (o4 o5 o6 : Option V), m = l.length - i ∧ i ≤ l.length ∧ σ = [some (.ref a), some (.ref x), some (.ref D), some (.int (i : Nat)), o4, o5, o6] ∧
        Same H H' ∧ H' D = some (.lst (done.map V.int)) ∧ BeatAt (fun b => b = D) C H' x s ∧ EB.GoodS s ∧ EB.Left (l.drop i) cs ∧ PySy41.answers l = done ++ EB.toldOf s cs,
      ⟨l.length, 0, [], Sy41.init, cs0, none, none, none, rfl, Nat.zero_le _, rfl, s1.trans sD, upd_same, hB2, EB.goodS_init, hl0, hans⟩, ?_⟩
    rintro m σ H' ⟨i, done, s, cs, o4, o5, o6, rfl, hi, rfl, sm, hD, hB, G, hleft, htot⟩
    have hL' := sm.seq hL
    refine ⟨_, rfl, _, rfl, a, _, rfl, .inl hL', _, _, rfl, rfl, _, rfl, ite_dec (fun hc => ?_) (fun hc => ?_)⟩
    · rw [List.length_map] at hc
      have hlt : i < l.length := by omega
      have ed : l.drop i = l[i] :: l.drop (i + 1) := List.drop_eq_getElem_cons hlt
      have ep := List.getElem?_eq_getElem hlt
      generalize l[i] = p at ed ep
      rw [ed] at hleft
      obtain ⟨n, c, cs', p0, p10, ht, hn, hcall, rfl, hleft'⟩ := EB.left_cons hleft
      have htold : atI (EB.told.map V.int) p = some (.int (n : Nat)) := at_of (show p = ((p.toNat : Nat) : Int) by omega) (map_get ht)
      rw [List.drop_drop] at hleft'
      have hn2 : i + 1 + n ≤ l.length := by
        rw [List.length_drop] at hn
        omega
      rw [EB.toldOf_cons, EB.nstep hcall] at htot
      have e1 : ((i : Nat) : Int) + 1 = ((i + 1 : Nat) : Int) := by omega
      have e2 : ((i + 1 : Nat) : Int) + (n : Int) = ((i + 1 + n : Nat) : Int) := by omega
      have lenT : done.length + (1 + ((Sy41Neutral.out (Sy41.step s c).2).length + (EB.toldOf (Sy41.step s c).1 cs').length)) ≤ 10000000 := by
        rw [htot] at hmax
        simp only [List.length_append, List.length_cons] at hmax
        omega
      -- call = calls[at]; at += 1
      refine ⟨fun σ' H2 => ∃ (done2 : List Int) (o4 o5 o6 : Option V), σ' = [some (.ref a), some (.ref x), some (.ref D), some (.int ((i + 1 + n : Nat) : Int)), o4, o5, o6] ∧ Same H H2 ∧ H2 D = some (.lst (done2.map V.int)) ∧ BeatAt (fun b => b = D) C H2 x (Sy41.step s c).1 ∧
          PySy41.answers l = done2 ++ EB.toldOf (Sy41.step s c).1 cs', ?_, ?_⟩
      · rintro σ' H2 ⟨done2, q4, q5, q6, rfl, g1, g2, g3, g4⟩
        exact ⟨l.length - (i + 1 + n), by omega, i + 1 + n, done2, _, cs', q4, q5, q6, rfl, hn2, rfl, g1, g2, g3, EB.step_good G c, by rw [Nat.add_assoc]; rw [Nat.add_assoc] at hleft'; exact hleft', g4⟩
      refine ⟨_, rfl, _, rfl, a, _, _, _, rfl, rfl, hL', atI_nat (map_get ep), ?_⟩
      refine ⟨_, rfl, _, _, rfl, rfl, ?_⟩
      show tSeq _ _ _ [some (.ref a), some (.ref x), some (.ref D), some (.int ((i : Nat) + 1)), some (.int p), o5, o6] H'
      rw [e1]
      -- numbers = calls[at:at + NUMBERS_TOLD[call]]
      refine ⟨_, rfl, _, rfl, _, rfl, _, rfl, _, rfl, aT, _, _, _, rfl, rfl, TT.at_ _, htold, _, _, rfl, rfl, _, rfl, a, _, rfl, hL', fun pn npn => ?_⟩
      rw [cut_mid] at *
      have sp := same_upd (o := .lst (((l.drop (i + 1)).take n).map V.int)) npn
      -- at += NUMBERS_TOLD[call]
      refine ⟨_, rfl, _, rfl, aT, _, _, _, rfl, rfl, TT.at_ _, htold, _, _, rfl, rfl, ?_⟩
      show tSeq _ _ _ [some (.ref a), some (.ref x), some (.ref D), some (.int (((i + 1 : Nat) : Int) + (n : Int))), some (.int p), some (.ref pn), o6] _
      rw [e2]
      -- one = beat.answer(call, numbers)
      have hB' := hB.same sp
      obtain ⟨dx3, ps3, pst3, hb3, _⟩ := id hB'
      refine ⟨_, rfl, x, dx3, _, rfl, hb3, bf_no (by decide +kernel), _, rfl, _, rfl, fun b => b = D, x, pn, s, p, (l.drop (i + 1)).take n, c, rfl, SqL.of upd_same, EB.callOf_is hcall, hB', G, (fun b hb => by rw [show b = D from hb, sp _ _ hD]; intro z; cases z), fun H3 one k3 n3 h3 hB3 => ?_⟩
      have hDx : D ≠ x := ne_of (sp _ _ hD) hb3 (by intro z; cases z)
      have hD3 := k3 D _ hDx (sp _ _ hD)
      have hoD : one ≠ D := fun z => by
        rw [z, sp _ _ hD] at n3
        cases n3
      have sm3 : Same H H3 := fun b o e => k3 b o (fun z => by rw [z, nx] at e; cases e) (sp _ _ (sm _ _ e))
      -- found.append(len(one))
      refine ⟨_, rfl, .inl ⟨rfl, _, SqL.of hD3⟩, _, rfl, one, _, rfl, .inl (SqL.of h3), D, _, _, rfl, rfl, hD3, ?_, ?_⟩
      · rw [List.length_map]
        exact Nat.lt_of_lt_of_le (show done.length < 10000001 by omega) (by decide)
      have hD4 : (upd H3 D (.lst (done.map V.int ++ [.int (((Sy41Neutral.out (Sy41.step s c).2).map V.int).length : Nat)]))) D = some (.lst (done.map V.int ++ [.int (((Sy41Neutral.out (Sy41.step s c).2).map V.int).length : Nat)])) := upd_same
      have hB4 := hB3.kp (ys := done.map V.int ++ [.int (((Sy41Neutral.out (Sy41.step s c).2).map V.int).length : Nat)]) rfl hD3
      have hone : (upd H3 D (.lst (done.map V.int ++ [.int (((Sy41Neutral.out (Sy41.step s c).2).map V.int).length : Nat)]))) one = some (.lst ((Sy41Neutral.out (Sy41.step s c).2).map V.int)) := by
        rw [upd_ne hoD]
        exact h3
      -- found.extend(one)
      refine ⟨_, rfl, .inl ⟨rfl, _, SqL.of hD4⟩, _, rfl, D, one, _, _, rfl, rfl, hD4, hone, ?_, ?_⟩
      · rw [List.length_append, List.length_map, List.length_map]
        exact Nat.le_trans (show done.length + 1 + (Sy41Neutral.out (Sy41.step s c).2).length ≤ 10000001 by omega) (by decide)
      refine ⟨done ++ ((Sy41Neutral.out (Sy41.step s c).2).length : Int) :: Sy41Neutral.out (Sy41.step s c).2, _, _, _, rfl, fun b o e => ?_, ?_, hB4.kp rfl hD4, ?_⟩
      · have hbD : b ≠ D := ne_of_none e (s1.free nD)
        rw [upd_ne hbD, upd_ne hbD]
        exact sm3 _ _ e
      · rw [upd_same, List.length_map, List.map_append, List.map_cons, List.append_assoc]
        rfl
      · rw [htot]
        simp only [List.append_assoc, List.cons_append]
    · rw [List.length_map] at hc
      have hil : l.length ≤ i := by omega
      rw [List.drop_eq_nil_of_le hil] at hleft
      have := EB.left_nil hleft
      subst this
      rw [EB.toldOf_nil, List.append_nil] at htot
      refine ⟨_, rfl, k H' D ?_⟩
      rw [htot]
      exact hD
end
end EW

namespace EW
open PySem PySem.Spec PyProof.Rows L2
/-! # What the top has written -/
theorem exm_self {K : PySem.W.Frag} {S : Addr} (h1 : PySem.W.subIn K (.ref S) (.type "BaseException") = some true) (h2 : PySem.W.isClsIn K S = true) (h3 : PySem.W.typeIn K (.ref S) = some (.type "type")) (h4 : PySem.W.subIn K (.ref S) (.ref S) = some true) :
    PySem.W.exmOne K (.ref S) (.ref S) = some true := by
  have e1 : (PySem.W.subIn K (.ref S) (.type "BaseException") == some true) = true := by rw [h1] <;> rfl
  have e2 : ((PySem.W.clsIn K S).isSome && PySem.W.typeIn K (.ref S) == some (.type "type")) = true := by
    have h2' : (PySem.W.clsIn K S).isSome = true := h2
    rw [h2', h3] <;> rfl
  show (if (PySem.W.subIn K (.ref S) (.type "BaseException") == some true) = true then (if ((PySem.W.clsIn K S).isSome && PySem.W.typeIn K (.ref S) == some (.type "type")) = true then PySem.W.subIn K (.ref S) (.ref S) else none) else none) = some true
  rw [if_pos e1, if_pos e2]
  exact h4
theorem all_mk {P : Program} {w : World} {K : PySem.W.Frag} {h : Heap} {mg : Str → Option Value} {fa C RC fR aT ft0 ft1 ft2 ft3 ft4 ft5 ft6 ft7 ft8 ft9 ft10 ft11 ft12 ft13 ft14 ft15 ft16 fm0 fm1 fm2 fm3 fm4 fm5 fm6 fm7 fm8 fm9 fm10 fm11 fm12 fm13 fm14 fm15 fm16 : Addr} (X : K.In h) (G : h.Ns mainGlobals mg) (hfa : mg "answers" = some (.ref fa))
    {odt0 ant0 : Option Addr} {slt0 : Array (Option Value)} {oct0 kVt0 dct0 pmt0 cdt0 ctt0 : Value}
    {odt1 ant1 : Option Addr} {slt1 : Array (Option Value)} {oct1 kVt1 dct1 pmt1 cdt1 ctt1 : Value}
    {odt2 ant2 : Option Addr} {slt2 : Array (Option Value)} {oct2 kVt2 dct2 pmt2 cdt2 ctt2 : Value}
    {odt3 ant3 : Option Addr} {slt3 : Array (Option Value)} {oct3 kVt3 dct3 pmt3 cdt3 ctt3 : Value}
    {odt4 ant4 : Option Addr} {slt4 : Array (Option Value)} {oct4 kVt4 dct4 pmt4 cdt4 ctt4 : Value}
    {odt5 ant5 : Option Addr} {slt5 : Array (Option Value)} {oct5 kVt5 dct5 pmt5 cdt5 ctt5 : Value}
    {odt6 ant6 : Option Addr} {slt6 : Array (Option Value)} {oct6 kVt6 dct6 pmt6 cdt6 ctt6 : Value}
    {odt7 ant7 : Option Addr} {slt7 : Array (Option Value)} {oct7 kVt7 dct7 pmt7 cdt7 ctt7 : Value}
    {odt8 ant8 : Option Addr} {slt8 : Array (Option Value)} {oct8 kVt8 dct8 pmt8 cdt8 ctt8 : Value}
    {odt9 ant9 : Option Addr} {slt9 : Array (Option Value)} {oct9 kVt9 dct9 pmt9 cdt9 ctt9 : Value}
    {odt10 ant10 : Option Addr} {slt10 : Array (Option Value)} {oct10 kVt10 dct10 pmt10 cdt10 ctt10 : Value}
    {odt11 ant11 : Option Addr} {slt11 : Array (Option Value)} {oct11 kVt11 dct11 pmt11 cdt11 ctt11 : Value}
    {odt12 ant12 : Option Addr} {slt12 : Array (Option Value)} {oct12 kVt12 dct12 pmt12 cdt12 ctt12 : Value}
    {odt13 ant13 : Option Addr} {slt13 : Array (Option Value)} {oct13 kVt13 dct13 pmt13 cdt13 ctt13 : Value}
    {odt14 ant14 : Option Addr} {slt14 : Array (Option Value)} {oct14 kVt14 dct14 pmt14 cdt14 ctt14 : Value}
    {odt15 ant15 : Option Addr} {slt15 : Array (Option Value)} {oct15 kVt15 dct15 pmt15 cdt15 ctt15 : Value}
    {odt16 ant16 : Option Addr} {slt16 : Array (Option Value)} {oct16 kVt16 dct16 pmt16 cdt16 ctt16 : Value}
    {odm0 anm0 : Option Addr} {slm0 : Array (Option Value)} {ocm0 kVm0 dcm0 pmm0 cdm0 ctm0 : Value}
    {odm1 anm1 : Option Addr} {slm1 : Array (Option Value)} {ocm1 kVm1 dcm1 pmm1 cdm1 ctm1 : Value}
    {odm2 anm2 : Option Addr} {slm2 : Array (Option Value)} {ocm2 kVm2 dcm2 pmm2 cdm2 ctm2 : Value}
    {odm3 anm3 : Option Addr} {slm3 : Array (Option Value)} {ocm3 kVm3 dcm3 pmm3 cdm3 ctm3 : Value}
    {odm4 anm4 : Option Addr} {slm4 : Array (Option Value)} {ocm4 kVm4 dcm4 pmm4 cdm4 ctm4 : Value}
    {odm5 anm5 : Option Addr} {slm5 : Array (Option Value)} {ocm5 kVm5 dcm5 pmm5 cdm5 ctm5 : Value}
    {odm6 anm6 : Option Addr} {slm6 : Array (Option Value)} {ocm6 kVm6 dcm6 pmm6 cdm6 ctm6 : Value}
    {odm7 anm7 : Option Addr} {slm7 : Array (Option Value)} {ocm7 kVm7 dcm7 pmm7 cdm7 ctm7 : Value}
    {odm8 anm8 : Option Addr} {slm8 : Array (Option Value)} {ocm8 kVm8 dcm8 pmm8 cdm8 ctm8 : Value}
    {odm9 anm9 : Option Addr} {slm9 : Array (Option Value)} {ocm9 kVm9 dcm9 pmm9 cdm9 ctm9 : Value}
    {odm10 anm10 : Option Addr} {slm10 : Array (Option Value)} {ocm10 kVm10 dcm10 pmm10 cdm10 ctm10 : Value}
    {odm11 anm11 : Option Addr} {slm11 : Array (Option Value)} {ocm11 kVm11 dcm11 pmm11 cdm11 ctm11 : Value}
    {odm12 anm12 : Option Addr} {slm12 : Array (Option Value)} {ocm12 kVm12 dcm12 pmm12 cdm12 ctm12 : Value}
    {odm13 anm13 : Option Addr} {slm13 : Array (Option Value)} {ocm13 kVm13 dcm13 pmm13 cdm13 ctm13 : Value}
    {odm14 anm14 : Option Addr} {slm14 : Array (Option Value)} {ocm14 kVm14 dcm14 pmm14 cdm14 ctm14 : Value}
    {odm15 anm15 : Option Addr} {slm15 : Array (Option Value)} {ocm15 kVm15 dcm15 pmm15 cdm15 ctm15 : Value}
    {odm16 anm16 : Option Addr} {slm16 : Array (Option Value)} {ocm16 kVm16 dcm16 pmm16 cdm16 ctm16 : Value}
    {nmR qR : Str} {NR : Addr} {bsR : List Value} {snR : List Str} {subR : List Value} {abR : Bool} {colR : Option Bool} {ddR : Option Addr} {k0R k1R k2R k3R k5R : Option Value}
    {odR anR : Option Addr} {slR : Array (Option Value)} {ocR kVR dcR pmR cdR ctR : Value}
    {u0 : Tok}
    {u1 : Tok}
    {u2 : Tok}
    {u3 : Tok}
    {u4 : Tok}
    {u5 : Tok}
    {u6 : Tok}
    {u7 : Tok}
    {u8 : Tok}
    {u9 : Tok}
    {u10 : Tok}
    {odT : Option Addr} {nT : Nat} {slT : Array (Option Value)} {w0 w1 w2 w3 w4 w5 w6 w7 w8 w9 w10 : Tok}
    (aC : PySem.W.nsIn K mainGlobals "Beat" = some (some (.ref C)))
    (aR : PySem.W.nsIn K mainGlobals "Refused" = some (some (.ref RC)))
    (gT : PySem.W.nsIn K mainGlobals "NUMBERS_TOLD" = some (some (.ref aT)))
    (at0 : PySem.W.nsIn K mainGlobals "fraction" = some (some (.ref ft0)))
    (lt0 : K.lookup ft0 = some ⟨oct0, odt0, .func (PySem.W.fnOf "fraction" "fraction" (defArgs sFraction) (defBody sFraction) (defScope sFraction) .none kVt0 dct0 pmt0 ant0 cdt0 ctt0), slt0⟩)
    (ct0 : PySem.W.codeIn K cdt0 "fraction" = true)
    (kt0 : PySem.W.keepIn K (.ref ft0) = true)
    (at1 : PySem.W.nsIn K mainGlobals "is_less" = some (some (.ref ft1)))
    (lt1 : K.lookup ft1 = some ⟨oct1, odt1, .func (PySem.W.fnOf "is_less" "is_less" (defArgs sIsLess) (defBody sIsLess) (defScope sIsLess) .none kVt1 dct1 pmt1 ant1 cdt1 ctt1), slt1⟩)
    (ct1 : PySem.W.codeIn K cdt1 "is_less" = true)
    (kt1 : PySem.W.keepIn K (.ref ft1) = true)
    (at2 : PySem.W.nsIn K mainGlobals "lesser" = some (some (.ref ft2)))
    (lt2 : K.lookup ft2 = some ⟨oct2, odt2, .func (PySem.W.fnOf "lesser" "lesser" (defArgs sLesser) (defBody sLesser) (defScope sLesser) .none kVt2 dct2 pmt2 ant2 cdt2 ctt2), slt2⟩)
    (ct2 : PySem.W.codeIn K cdt2 "lesser" = true)
    (kt2 : PySem.W.keepIn K (.ref ft2) = true)
    (at3 : PySem.W.nsIn K mainGlobals "greater" = some (some (.ref ft3)))
    (lt3 : K.lookup ft3 = some ⟨oct3, odt3, .func (PySem.W.fnOf "greater" "greater" (defArgs sGreater) (defBody sGreater) (defScope sGreater) .none kVt3 dct3 pmt3 ant3 cdt3 ctt3), slt3⟩)
    (ct3 : PySem.W.codeIn K cdt3 "greater" = true)
    (kt3 : PySem.W.keepIn K (.ref ft3) = true)
    (at4 : PySem.W.nsIn K mainGlobals "less_times" = some (some (.ref ft4)))
    (lt4 : K.lookup ft4 = some ⟨oct4, odt4, .func (PySem.W.fnOf "less_times" "less_times" (defArgs sLessTimes) (defBody sLessTimes) (defScope sLessTimes) .none kVt4 dct4 pmt4 ant4 cdt4 ctt4), slt4⟩)
    (ct4 : PySem.W.codeIn K cdt4 "less_times" = true)
    (kt4 : PySem.W.keepIn K (.ref ft4) = true)
    (at5 : PySem.W.nsIn K mainGlobals "plus_times" = some (some (.ref ft5)))
    (lt5 : K.lookup ft5 = some ⟨oct5, odt5, .func (PySem.W.fnOf "plus_times" "plus_times" (defArgs sPlusTimes) (defBody sPlusTimes) (defScope sPlusTimes) .none kVt5 dct5 pmt5 ant5 cdt5 ctt5), slt5⟩)
    (ct5 : PySem.W.codeIn K cdt5 "plus_times" = true)
    (kt5 : PySem.W.keepIn K (.ref ft5) = true)
    (at6 : PySem.W.nsIn K mainGlobals "rounded_up" = some (some (.ref ft6)))
    (lt6 : K.lookup ft6 = some ⟨oct6, odt6, .func (PySem.W.fnOf "rounded_up" "rounded_up" (defArgs sRoundedUp) (defBody sRoundedUp) (defScope sRoundedUp) .none kVt6 dct6 pmt6 ant6 cdt6 ctt6), slt6⟩)
    (ct6 : PySem.W.codeIn K cdt6 "rounded_up" = true)
    (kt6 : PySem.W.keepIn K (.ref ft6) = true)
    (at7 : PySem.W.nsIn K mainGlobals "narrowed" = some (some (.ref ft7)))
    (lt7 : K.lookup ft7 = some ⟨oct7, odt7, .func (PySem.W.fnOf "narrowed" "narrowed" (defArgs sNarrowed) (defBody sNarrowed) (defScope sNarrowed) .none kVt7 dct7 pmt7 ant7 cdt7 ctt7), slt7⟩)
    (ct7 : PySem.W.codeIn K cdt7 "narrowed" = true)
    (kt7 : PySem.W.keepIn K (.ref ft7) = true)
    (at8 : PySem.W.nsIn K mainGlobals "with_beat" = some (some (.ref ft8)))
    (lt8 : K.lookup ft8 = some ⟨oct8, odt8, .func (PySem.W.fnOf "with_beat" "with_beat" (defArgs sWithBeat) (defBody sWithBeat) (defScope sWithBeat) .none kVt8 dct8 pmt8 ant8 cdt8 ctt8), slt8⟩)
    (ct8 : PySem.W.codeIn K cdt8 "with_beat" = true)
    (kt8 : PySem.W.keepIn K (.ref ft8) = true)
    (at9 : PySem.W.nsIn K mainGlobals "beats_for" = some (some (.ref ft9)))
    (lt9 : K.lookup ft9 = some ⟨oct9, odt9, .func (PySem.W.fnOf "beats_for" "beats_for" (defArgs sBeatsFor) (defBody sBeatsFor) (defScope sBeatsFor) .none kVt9 dct9 pmt9 ant9 cdt9 ctt9), slt9⟩)
    (ct9 : PySem.W.codeIn K cdt9 "beats_for" = true)
    (kt9 : PySem.W.keepIn K (.ref ft9) = true)
    (at10 : PySem.W.nsIn K mainGlobals "stretches_of" = some (some (.ref ft10)))
    (lt10 : K.lookup ft10 = some ⟨oct10, odt10, .func (PySem.W.fnOf "stretches_of" "stretches_of" (defArgs sStretchesOf) (defBody sStretchesOf) (defScope sStretchesOf) .none kVt10 dct10 pmt10 ant10 cdt10 ctt10), slt10⟩)
    (ct10 : PySem.W.codeIn K cdt10 "stretches_of" = true)
    (kt10 : PySem.W.keepIn K (.ref ft10) = true)
    (at11 : PySem.W.nsIn K mainGlobals "in_order" = some (some (.ref ft11)))
    (lt11 : K.lookup ft11 = some ⟨oct11, odt11, .func (PySem.W.fnOf "in_order" "in_order" (defArgs sInOrder) (defBody sInOrder) (defScope sInOrder) .none kVt11 dct11 pmt11 ant11 cdt11 ctt11), slt11⟩)
    (ct11 : PySem.W.codeIn K cdt11 "in_order" = true)
    (kt11 : PySem.W.keepIn K (.ref ft11) = true)
    (at12 : PySem.W.nsIn K mainGlobals "beats_by" = some (some (.ref ft12)))
    (lt12 : K.lookup ft12 = some ⟨oct12, odt12, .func (PySem.W.fnOf "beats_by" "beats_by" (defArgs sBeatsBy) (defBody sBeatsBy) (defScope sBeatsBy) .none kVt12 dct12 pmt12 ant12 cdt12 ctt12), slt12⟩)
    (ct12 : PySem.W.codeIn K cdt12 "beats_by" = true)
    (kt12 : PySem.W.keepIn K (.ref ft12) = true)
    (at13 : PySem.W.nsIn K mainGlobals "window_of" = some (some (.ref ft13)))
    (lt13 : K.lookup ft13 = some ⟨oct13, odt13, .func (PySem.W.fnOf "window_of" "window_of" (defArgs sWindowOf) (defBody sWindowOf) (defScope sWindowOf) .none kVt13 dct13 pmt13 ant13 cdt13 ctt13), slt13⟩)
    (ct13 : PySem.W.codeIn K cdt13 "window_of" = true)
    (kt13 : PySem.W.keepIn K (.ref ft13) = true)
    (at14 : PySem.W.nsIn K mainGlobals "want" = some (some (.ref ft14)))
    (lt14 : K.lookup ft14 = some ⟨oct14, odt14, .func (PySem.W.fnOf "want" "want" (defArgs sWant) (defBody sWant) (defScope sWant) .none kVt14 dct14 pmt14 ant14 cdt14 ctt14), slt14⟩)
    (ct14 : PySem.W.codeIn K cdt14 "want" = true)
    (kt14 : PySem.W.keepIn K (.ref ft14) = true)
    (at15 : PySem.W.nsIn K mainGlobals "counted" = some (some (.ref ft15)))
    (lt15 : K.lookup ft15 = some ⟨oct15, odt15, .func (PySem.W.fnOf "counted" "counted" (defArgs sCounted) (defBody sCounted) (defScope sCounted) .none kVt15 dct15 pmt15 ant15 cdt15 ctt15), slt15⟩)
    (ct15 : PySem.W.codeIn K cdt15 "counted" = true)
    (kt15 : PySem.W.keepIn K (.ref ft15) = true)
    (at16 : PySem.W.nsIn K mainGlobals "answers" = some (some (.ref ft16)))
    (lt16 : K.lookup ft16 = some ⟨oct16, odt16, .func (PySem.W.fnOf "answers" "answers" (defArgs sAnswers) (defBody sAnswers) (defScope sAnswers) .none kVt16 dct16 pmt16 ant16 cdt16 ctt16), slt16⟩)
    (ct16 : PySem.W.codeIn K cdt16 "answers" = true)
    (kt16 : PySem.W.keepIn K (.ref ft16) = true)
    (am0 : PySem.W.findIn K (.ref C) "__init__" = some (some (.ref fm0)))
    (im0 : PySem.W.isFn K (.ref fm0) = true)
    (lm0 : K.lookup fm0 = some ⟨ocm0, odm0, .func (PySem.W.fnOf "__init__" "Beat.__init__" (defArgs (bm 0)) (defBody (bm 0)) (defScope (bm 0)) .none kVm0 dcm0 pmm0 anm0 cdm0 ctm0), slm0⟩)
    (cm0 : PySem.W.codeIn K cdm0 "Beat.__init__" = true)
    (km0 : PySem.W.keepIn K (.ref fm0) = true)
    (am1 : PySem.W.findIn K (.ref C) "stretches_with" = some (some (.ref fm1)))
    (im1 : PySem.W.isFn K (.ref fm1) = true)
    (lm1 : K.lookup fm1 = some ⟨ocm1, odm1, .func (PySem.W.fnOf "stretches_with" "Beat.stretches_with" (defArgs (bm 1)) (defBody (bm 1)) (defScope (bm 1)) .none kVm1 dcm1 pmm1 anm1 cdm1 ctm1), slm1⟩)
    (cm1 : PySem.W.codeIn K cdm1 "Beat.stretches_with" = true)
    (km1 : PySem.W.keepIn K (.ref fm1) = true)
    (am2 : PySem.W.findIn K (.ref C) "begin" = some (some (.ref fm2)))
    (im2 : PySem.W.isFn K (.ref fm2) = true)
    (lm2 : K.lookup fm2 = some ⟨ocm2, odm2, .func (PySem.W.fnOf "begin" "Beat.begin" (defArgs (bm 2)) (defBody (bm 2)) (defScope (bm 2)) .none kVm2 dcm2 pmm2 anm2 cdm2 ctm2), slm2⟩)
    (cm2 : PySem.W.codeIn K cdm2 "Beat.begin" = true)
    (km2 : PySem.W.keepIn K (.ref fm2) = true)
    (am3 : PySem.W.findIn K (.ref C) "put" = some (some (.ref fm3)))
    (im3 : PySem.W.isFn K (.ref fm3) = true)
    (lm3 : K.lookup fm3 = some ⟨ocm3, odm3, .func (PySem.W.fnOf "put" "Beat.put" (defArgs (bm 3)) (defBody (bm 3)) (defScope (bm 3)) .none kVm3 dcm3 pmm3 anm3 cdm3 ctm3), slm3⟩)
    (cm3 : PySem.W.codeIn K cdm3 "Beat.put" = true)
    (km3 : PySem.W.keepIn K (.ref fm3) = true)
    (am4 : PySem.W.findIn K (.ref C) "see" = some (some (.ref fm4)))
    (im4 : PySem.W.isFn K (.ref fm4) = true)
    (lm4 : K.lookup fm4 = some ⟨ocm4, odm4, .func (PySem.W.fnOf "see" "Beat.see" (defArgs (bm 4)) (defBody (bm 4)) (defScope (bm 4)) .none kVm4 dcm4 pmm4 anm4 cdm4 ctm4), slm4⟩)
    (cm4 : PySem.W.codeIn K cdm4 "Beat.see" = true)
    (km4 : PySem.W.keepIn K (.ref fm4) = true)
    (am5 : PySem.W.findIn K (.ref C) "drop" = some (some (.ref fm5)))
    (im5 : PySem.W.isFn K (.ref fm5) = true)
    (lm5 : K.lookup fm5 = some ⟨ocm5, odm5, .func (PySem.W.fnOf "drop" "Beat.drop" (defArgs (bm 5)) (defBody (bm 5)) (defScope (bm 5)) .none kVm5 dcm5 pmm5 anm5 cdm5 ctm5), slm5⟩)
    (cm5 : PySem.W.codeIn K cdm5 "Beat.drop" = true)
    (km5 : PySem.W.keepIn K (.ref fm5) = true)
    (am6 : PySem.W.findIn K (.ref C) "periods" = some (some (.ref fm6)))
    (im6 : PySem.W.isFn K (.ref fm6) = true)
    (lm6 : K.lookup fm6 = some ⟨ocm6, odm6, .func (PySem.W.fnOf "periods" "Beat.periods" (defArgs (bm 6)) (defBody (bm 6)) (defScope (bm 6)) .none kVm6 dcm6 pmm6 anm6 cdm6 ctm6), slm6⟩)
    (cm6 : PySem.W.codeIn K cdm6 "Beat.periods" = true)
    (km6 : PySem.W.keepIn K (.ref fm6) = true)
    (am7 : PySem.W.findIn K (.ref C) "period" = some (some (.ref fm7)))
    (im7 : PySem.W.isFn K (.ref fm7) = true)
    (lm7 : K.lookup fm7 = some ⟨ocm7, odm7, .func (PySem.W.fnOf "period" "Beat.period" (defArgs (bm 7)) (defBody (bm 7)) (defScope (bm 7)) .none kVm7 dcm7 pmm7 anm7 cdm7 ctm7), slm7⟩)
    (cm7 : PySem.W.codeIn K cdm7 "Beat.period" = true)
    (km7 : PySem.W.keepIn K (.ref fm7) = true)
    (am8 : PySem.W.findIn K (.ref C) "fits" = some (some (.ref fm8)))
    (im8 : PySem.W.isFn K (.ref fm8) = true)
    (lm8 : K.lookup fm8 = some ⟨ocm8, odm8, .func (PySem.W.fnOf "fits" "Beat.fits" (defArgs (bm 8)) (defBody (bm 8)) (defScope (bm 8)) .none kVm8 dcm8 pmm8 anm8 cdm8 ctm8), slm8⟩)
    (cm8 : PySem.W.codeIn K cdm8 "Beat.fits" = true)
    (km8 : PySem.W.keepIn K (.ref fm8) = true)
    (am9 : PySem.W.findIn K (.ref C) "could" = some (some (.ref fm9)))
    (im9 : PySem.W.isFn K (.ref fm9) = true)
    (lm9 : K.lookup fm9 = some ⟨ocm9, odm9, .func (PySem.W.fnOf "could" "Beat.could" (defArgs (bm 9)) (defBody (bm 9)) (defScope (bm 9)) .none kVm9 dcm9 pmm9 anm9 cdm9 ctm9), slm9⟩)
    (cm9 : PySem.W.codeIn K cdm9 "Beat.could" = true)
    (km9 : PySem.W.keepIn K (.ref fm9) = true)
    (am10 : PySem.W.findIn K (.ref C) "bounds" = some (some (.ref fm10)))
    (im10 : PySem.W.isFn K (.ref fm10) = true)
    (lm10 : K.lookup fm10 = some ⟨ocm10, odm10, .func (PySem.W.fnOf "bounds" "Beat.bounds" (defArgs (bm 10)) (defBody (bm 10)) (defScope (bm 10)) .none kVm10 dcm10 pmm10 anm10 cdm10 ctm10), slm10⟩)
    (cm10 : PySem.W.codeIn K cdm10 "Beat.bounds" = true)
    (km10 : PySem.W.keepIn K (.ref fm10) = true)
    (am11 : PySem.W.findIn K (.ref C) "window" = some (some (.ref fm11)))
    (im11 : PySem.W.isFn K (.ref fm11) = true)
    (lm11 : K.lookup fm11 = some ⟨ocm11, odm11, .func (PySem.W.fnOf "window" "Beat.window" (defArgs (bm 11)) (defBody (bm 11)) (defScope (bm 11)) .none kVm11 dcm11 pmm11 anm11 cdm11 ctm11), slm11⟩)
    (cm11 : PySem.W.codeIn K cdm11 "Beat.window" = true)
    (km11 : PySem.W.keepIn K (.ref fm11) = true)
    (am12 : PySem.W.findIn K (.ref C) "later" = some (some (.ref fm12)))
    (im12 : PySem.W.isFn K (.ref fm12) = true)
    (lm12 : K.lookup fm12 = some ⟨ocm12, odm12, .func (PySem.W.fnOf "later" "Beat.later" (defArgs (bm 12)) (defBody (bm 12)) (defScope (bm 12)) .none kVm12 dcm12 pmm12 anm12 cdm12 ctm12), slm12⟩)
    (cm12 : PySem.W.codeIn K cdm12 "Beat.later" = true)
    (km12 : PySem.W.keepIn K (.ref fm12) = true)
    (am13 : PySem.W.findIn K (.ref C) "beats" = some (some (.ref fm13)))
    (im13 : PySem.W.isFn K (.ref fm13) = true)
    (lm13 : K.lookup fm13 = some ⟨ocm13, odm13, .func (PySem.W.fnOf "beats" "Beat.beats" (defArgs (bm 13)) (defBody (bm 13)) (defScope (bm 13)) .none kVm13 dcm13 pmm13 anm13 cdm13 ctm13), slm13⟩)
    (cm13 : PySem.W.codeIn K cdm13 "Beat.beats" = true)
    (km13 : PySem.W.keepIn K (.ref fm13) = true)
    (am14 : PySem.W.findIn K (.ref C) "on_time" = some (some (.ref fm14)))
    (im14 : PySem.W.isFn K (.ref fm14) = true)
    (lm14 : K.lookup fm14 = some ⟨ocm14, odm14, .func (PySem.W.fnOf "on_time" "Beat.on_time" (defArgs (bm 14)) (defBody (bm 14)) (defScope (bm 14)) .none kVm14 dcm14 pmm14 anm14 cdm14 ctm14), slm14⟩)
    (cm14 : PySem.W.codeIn K cdm14 "Beat.on_time" = true)
    (km14 : PySem.W.keepIn K (.ref fm14) = true)
    (am15 : PySem.W.findIn K (.ref C) "answered" = some (some (.ref fm15)))
    (im15 : PySem.W.isFn K (.ref fm15) = true)
    (lm15 : K.lookup fm15 = some ⟨ocm15, odm15, .func (PySem.W.fnOf "answered" "Beat.answered" (defArgs (bm 15)) (defBody (bm 15)) (defScope (bm 15)) .none kVm15 dcm15 pmm15 anm15 cdm15 ctm15), slm15⟩)
    (cm15 : PySem.W.codeIn K cdm15 "Beat.answered" = true)
    (km15 : PySem.W.keepIn K (.ref fm15) = true)
    (am16 : PySem.W.findIn K (.ref C) "answer" = some (some (.ref fm16)))
    (im16 : PySem.W.isFn K (.ref fm16) = true)
    (lm16 : K.lookup fm16 = some ⟨ocm16, odm16, .func (PySem.W.fnOf "answer" "Beat.answer" (defArgs (bm 16)) (defBody (bm 16)) (defScope (bm 16)) .none kVm16 dcm16 pmm16 anm16 cdm16 ctm16), slm16⟩)
    (cm16 : PySem.W.codeIn K cdm16 "Beat.answer" = true)
    (km16 : PySem.W.keepIn K (.ref fm16) = true)
    (pg : PySem.W.plainGet K C Str.empty = true)
    (hd : PySem.W.hasDictIn K C = true)
    (po : PySem.W.plainOver K C = true)
    (sa : PySem.W.findIn K (.ref C) "__setattr__" = some (some (.builtin "object.__setattr__")))
    (mk : PySem.W.makesIn K C = true)
    (kc : PySem.W.keepIn K (.ref C) = true)
    (n_low : PySem.W.findIn K (.ref C) "low" = some none)
    (n_high : PySem.W.findIn K (.ref C) "high" = some none)
    (n_off : PySem.W.findIn K (.ref C) "off" = some none)
    (n_seen : PySem.W.findIn K (.ref C) "seen" = some none)
    (n_stretches : PySem.W.findIn K (.ref C) "stretches" = some none)
    (iR : PySem.W.findIn K (.ref RC) "__init__" = some (some (.ref fR)))
    (xR : K.lookup RC = some (excClassObj nmR qR RC NR bsR [.type "ValueError", .type "Exception", .type "BaseException", .type "object"] true snR subR abR colR ddR k0R k1R k2R k3R k5R "ValueError.__new__"))
    (saR : PySem.W.findIn K (.ref RC) "__setattr__" = some (some (.builtin "object.__setattr__")))
    (gaR : PySem.W.findIn K (.ref RC) "__getattribute__" = some (some (.builtin "BaseException.__getattribute__")))
    (ggR : PySem.W.findIn K (.ref RC) "__getattr__" = some none)
    (noN : PySem.W.findIn K (.ref RC) "number" = some none)
    (noC : PySem.W.findIn K (.ref RC) "call" = some none)
    (tR : PySem.W.typeIn K (.ref fR) = some (.type "function"))
    (lR : K.lookup fR = some ⟨ocR, odR, .func (PySem.W.fnOf "__init__" "Refused.__init__" (defArgs sRefInit) (defBody sRefInit) (defScope sRefInit) .none kVR dcR pmR anR cdR ctR), slR⟩)
    (cR : PySem.W.codeIn K cdR "Refused.__init__" = true)
    (kR : PySem.W.keepIn K (.ref fR) = true)
    (kRC : PySem.W.keepIn K (.ref RC) = true)
    (eRC : PySem.W.subIn K (.ref RC) (.type "BaseException") = some true)
    (tRC : PySem.W.typeIn K (.ref RC) = some (.type "type"))
    (hRC : PySem.W.hasDictIn K RC = true)
    (icRC : PySem.W.isClsIn K RC = true)
    (sRC : PySem.W.subIn K (.ref RC) (.ref RC) = some true)
    (vV : PySem.W.findCls K (.type "ValueError") (.type "type") "__init__" = some (.val (.builtin "ValueError.__init__")))
    (k_0 : PySem.W.nsIn K mainGlobals "OUT" = some (some (.int (-1) u0)))
    (k_1 : PySem.W.nsIn K mainGlobals "NONE_SUCH" = some (some (.int (-2) u1)))
    (k_2 : PySem.W.nsIn K mainGlobals "THERE" = some (some (.int (-4) u2)))
    (k_3 : PySem.W.nsIn K mainGlobals "FULL" = some (some (.int (-5) u3)))
    (k_4 : PySem.W.nsIn K mainGlobals "NO_PERIOD" = some (some (.int (-6) u4)))
    (k_5 : PySem.W.nsIn K mainGlobals "LEAST_LOW" = some (some (.int 8 u5)))
    (k_6 : PySem.W.nsIn K mainGlobals "MOST_HIGH" = some (some (.int 1000 u6)))
    (k_7 : PySem.W.nsIn K mainGlobals "MOST_TIME" = some (some (.int 2000 u7)))
    (k_8 : PySem.W.nsIn K mainGlobals "MOST_TIMES" = some (some (.int 10 u8)))
    (k_9 : PySem.W.nsIn K mainGlobals "MOST_BELOW" = some (some (.int 1000 u9)))
    (k_10 : PySem.W.nsIn K mainGlobals "MOST_PERIOD" = some (some (.int 1000 u10)))
    (lT : K.lookup aT = some ⟨.type "tuple", odT, .seq #[.int 3 w0, .int 1 w1, .int 1 w2, .int 0 w3, .int 2 w4, .int 1 w5, .int 2 w6, .int 1 w7, .int 3 w8, .int 0 w9, .int 0 w10] nT, slT⟩)
    (z_abs : PySem.W.nsIn K mainGlobals "abs" = some none)
    (z_max : PySem.W.nsIn K mainGlobals "max" = some none)
    (z_min : PySem.W.nsIn K mainGlobals "min" = some none)
    (z_list : PySem.W.nsIn K mainGlobals "list" = some none)
    (z_range : PySem.W.nsIn K mainGlobals "range" = some none)
    (z_zip : PySem.W.nsIn K mainGlobals "zip" = some none)
    (z_len : PySem.W.nsIn K mainGlobals "len" = some none)
    (z_sorted : PySem.W.nsIn K mainGlobals "sorted" = some none)
    (z_int : PySem.W.nsIn K mainGlobals "int" = some none)
    (z_ValueError : PySem.W.nsIn K mainGlobals "ValueError" = some none)
    : ∃ fd : FuncData, (∀ (s : Shared) (us : List Value), us.length = (["calls"] : List Str).length → BindsTo s fd ⟨us, []⟩ ((["calls"] : List Str).zip us)) ∧ ∀ base : Heap, K.In base → base.Ns mainGlobals mg → FnOk P w K mg base CX0 12 fa fd ["calls"] (spAnswers K) := by
  have e := hfa.symm.trans (PySem.W.mg_of X G at16)
  cases e
  have b_abs : mg "abs" = none := PySem.W.mg_none_of X G z_abs
  have b_max : mg "max" = none := PySem.W.mg_none_of X G z_max
  have b_min : mg "min" = none := PySem.W.mg_none_of X G z_min
  have b_list : mg "list" = none := PySem.W.mg_none_of X G z_list
  have b_range : mg "range" = none := PySem.W.mg_none_of X G z_range
  have b_zip : mg "zip" = none := PySem.W.mg_none_of X G z_zip
  have b_len : mg "len" = none := PySem.W.mg_none_of X G z_len
  have b_sorted : mg "sorted" = none := PySem.W.mg_none_of X G z_sorted
  have b_int : mg "int" = none := PySem.W.mg_none_of X G z_int
  have b_ValueError : mg "ValueError" = none := PySem.W.mg_none_of X G z_ValueError
  have Ft0 := fun_mk (st := sFraction) lt0 ct0 kt0
  have gt0 : mg "fraction" = some (.ref ft0) := PySem.W.mg_of X G at0
  have Bt0 := Ft0.binds (ps := ["above", "below"]) fun _ _ _ _ _ _ us hl => match us, hl with | [_, _], _ => rfl
  have Ft1 := fun_mk (st := sIsLess) lt1 ct1 kt1
  have gt1 : mg "is_less" = some (.ref ft1) := PySem.W.mg_of X G at1
  have Bt1 := Ft1.binds (ps := ["one", "other"]) fun _ _ _ _ _ _ us hl => match us, hl with | [_, _], _ => rfl
  have Ft2 := fun_mk (st := sLesser) lt2 ct2 kt2
  have gt2 : mg "lesser" = some (.ref ft2) := PySem.W.mg_of X G at2
  have Bt2 := Ft2.binds (ps := ["one", "other"]) fun _ _ _ _ _ _ us hl => match us, hl with | [_, _], _ => rfl
  have Ft3 := fun_mk (st := sGreater) lt3 ct3 kt3
  have gt3 : mg "greater" = some (.ref ft3) := PySem.W.mg_of X G at3
  have Bt3 := Ft3.binds (ps := ["one", "other"]) fun _ _ _ _ _ _ us hl => match us, hl with | [_, _], _ => rfl
  have Ft4 := fun_mk (st := sLessTimes) lt4 ct4 kt4
  have gt4 : mg "less_times" = some (.ref ft4) := PySem.W.mg_of X G at4
  have Bt4 := Ft4.binds (ps := ["number", "many", "one"]) fun _ _ _ _ _ _ us hl => match us, hl with | [_, _, _], _ => rfl
  have Ft5 := fun_mk (st := sPlusTimes) lt5 ct5 kt5
  have gt5 : mg "plus_times" = some (.ref ft5) := PySem.W.mg_of X G at5
  have Bt5 := Ft5.binds (ps := ["start", "many", "one"]) fun _ _ _ _ _ _ us hl => match us, hl with | [_, _, _], _ => rfl
  have Ft6 := fun_mk (st := sRoundedUp) lt6 ct6 kt6
  have gt6 : mg "rounded_up" = some (.ref ft6) := PySem.W.mg_of X G at6
  have Bt6 := Ft6.binds (ps := ["above", "below"]) fun _ _ _ _ _ _ us hl => match us, hl with | [_, _], _ => rfl
  have Ft7 := fun_mk (st := sNarrowed) lt7 ct7 kt7
  have gt7 : mg "narrowed" = some (.ref ft7) := PySem.W.mg_of X G at7
  have Bt7 := Ft7.binds (ps := ["low", "high", "apart", "many", "off"]) fun _ _ _ _ _ _ us hl => match us, hl with | [_, _, _, _, _], _ => rfl
  have Ft8 := fun_mk (st := sWithBeat) lt8 ct8 kt8
  have gt8 : mg "with_beat" = some (.ref ft8) := PySem.W.mg_of X G at8
  have Bt8 := Ft8.binds (ps := ["stretch", "times", "time", "beat", "off"]) fun _ _ _ _ _ _ us hl => match us, hl with | [_, _, _, _, _], _ => rfl
  have Ft9 := fun_mk (st := sBeatsFor) lt9 ct9 kt9
  have gt9 : mg "beats_for" = some (.ref ft9) := PySem.W.mg_of X G at9
  have Bt9 := Ft9.binds (ps := ["stretch", "apart", "off"]) fun _ _ _ _ _ _ us hl => match us, hl with | [_, _, _], _ => rfl
  have Ft10 := fun_mk (st := sStretchesOf) lt10 ct10 kt10
  have gt10 : mg "stretches_of" = some (.ref ft10) := PySem.W.mg_of X G at10
  have Bt10 := Ft10.binds (ps := ["low", "high", "off", "times"]) fun _ _ _ _ _ _ us hl => match us, hl with | [_, _, _, _], _ => rfl
  have Ft11 := fun_mk (st := sInOrder) lt11 ct11 kt11
  have gt11 : mg "in_order" = some (.ref ft11) := PySem.W.mg_of X G at11
  have Bt11 := Ft11.binds (ps := ["stretches"]) fun _ _ _ _ _ _ us hl => match us, hl with | [_], _ => rfl
  have Ft12 := fun_mk (st := sBeatsBy) lt12 ct12 kt12
  have gt12 : mg "beats_by" = some (.ref ft12) := PySem.W.mg_of X G at12
  have Bt12 := Ft12.binds (ps := ["stretches", "period"]) fun _ _ _ _ _ _ us hl => match us, hl with | [_, _], _ => rfl
  have Ft13 := fun_mk (st := sWindowOf) lt13 ct13 kt13
  have gt13 : mg "window_of" = some (.ref ft13) := PySem.W.mg_of X G at13
  have Bt13 := Ft13.binds (ps := ["times", "beats", "off", "period"]) fun _ _ _ _ _ _ us hl => match us, hl with | [_, _, _, _], _ => rfl
  have Ft14 := fun_mk (st := sWant) lt14 ct14 kt14
  have gt14 : mg "want" = some (.ref ft14) := PySem.W.mg_of X G at14
  have Bt14 := Ft14.binds (ps := ["is_so", "number"]) fun _ _ _ _ _ _ us hl => match us, hl with | [_, _], _ => rfl
  have Ft15 := fun_mk (st := sCounted) lt15 ct15 kt15
  have gt15 : mg "counted" = some (.ref ft15) := PySem.W.mg_of X G at15
  have Bt15 := Ft15.binds (ps := ["row"]) fun _ _ _ _ _ _ us hl => match us, hl with | [_], _ => rfl
  have Ft16 := fun_mk (st := sAnswers) lt16 ct16 kt16
  have Fm0 := fun_mk (st := (bm 0)) lm0 cm0 km0
  have Bm0 := Fm0.binds (ps := ["self"]) fun _ _ _ _ _ _ us hl => match us, hl with | [_], _ => rfl
  have Mm0 : Meth K C "__init__" fm0 := ⟨am0, im0, km0⟩
  have Fm1 := fun_mk (st := (bm 1)) lm1 cm1 km1
  have Bm1 := Fm1.binds (ps := ["self", "times"]) fun _ _ _ _ _ _ us hl => match us, hl with | [_, _], _ => rfl
  have Mm1 : Meth K C "stretches_with" fm1 := ⟨am1, im1, km1⟩
  have Fm2 := fun_mk (st := (bm 2)) lm2 cm2 km2
  have Bm2 := Fm2.binds (ps := ["self", "low", "high", "off"]) fun _ _ _ _ _ _ us hl => match us, hl with | [_, _, _, _], _ => rfl
  have Mm2 : Meth K C "begin" fm2 := ⟨am2, im2, km2⟩
  have Fm3 := fun_mk (st := (bm 3)) lm3 cm3 km3
  have Bm3 := Fm3.binds (ps := ["self", "times"]) fun _ _ _ _ _ _ us hl => match us, hl with | [_, _], _ => rfl
  have Mm3 : Meth K C "put" fm3 := ⟨am3, im3, km3⟩
  have Fm4 := fun_mk (st := (bm 4)) lm4 cm4 km4
  have Bm4 := Fm4.binds (ps := ["self", "time"]) fun _ _ _ _ _ _ us hl => match us, hl with | [_, _], _ => rfl
  have Mm4 : Meth K C "see" fm4 := ⟨am4, im4, km4⟩
  have Fm5 := fun_mk (st := (bm 5)) lm5 cm5 km5
  have Bm5 := Fm5.binds (ps := ["self", "time"]) fun _ _ _ _ _ _ us hl => match us, hl with | [_, _], _ => rfl
  have Mm5 : Meth K C "drop" fm5 := ⟨am5, im5, km5⟩
  have Fm6 := fun_mk (st := (bm 6)) lm6 cm6 km6
  have Bm6 := Fm6.binds (ps := ["self"]) fun _ _ _ _ _ _ us hl => match us, hl with | [_], _ => rfl
  have Mm6 : Meth K C "periods" fm6 := ⟨am6, im6, km6⟩
  have Fm7 := fun_mk (st := (bm 7)) lm7 cm7 km7
  have Bm7 := Fm7.binds (ps := ["self", "above", "below"]) fun _ _ _ _ _ _ us hl => match us, hl with | [_, _, _], _ => rfl
  have Mm7 : Meth K C "period" fm7 := ⟨am7, im7, km7⟩
  have Fm8 := fun_mk (st := (bm 8)) lm8 cm8 km8
  have Bm8 := Fm8.binds (ps := ["self", "above", "below"]) fun _ _ _ _ _ _ us hl => match us, hl with | [_, _, _], _ => rfl
  have Mm8 : Meth K C "fits" fm8 := ⟨am8, im8, km8⟩
  have Fm9 := fun_mk (st := (bm 9)) lm9 cm9 km9
  have Bm9 := Fm9.binds (ps := ["self", "time"]) fun _ _ _ _ _ _ us hl => match us, hl with | [_, _], _ => rfl
  have Mm9 : Meth K C "could" fm9 := ⟨am9, im9, km9⟩
  have Fm10 := fun_mk (st := (bm 10)) lm10 cm10 km10
  have Bm10 := Fm10.binds (ps := ["self", "period"]) fun _ _ _ _ _ _ us hl => match us, hl with | [_, _], _ => rfl
  have Mm10 : Meth K C "bounds" fm10 := ⟨am10, im10, km10⟩
  have Fm11 := fun_mk (st := (bm 11)) lm11 cm11 km11
  have Bm11 := Fm11.binds (ps := ["self", "above", "below"]) fun _ _ _ _ _ _ us hl => match us, hl with | [_, _, _], _ => rfl
  have Mm11 : Meth K C "window" fm11 := ⟨am11, im11, km11⟩
  have Fm12 := fun_mk (st := (bm 12)) lm12 cm12 km12
  have Bm12 := Fm12.binds (ps := ["self", "above", "below", "time"]) fun _ _ _ _ _ _ us hl => match us, hl with | [_, _, _, _], _ => rfl
  have Mm12 : Meth K C "later" fm12 := ⟨am12, im12, km12⟩
  have Fm13 := fun_mk (st := (bm 13)) lm13 cm13 km13
  have Bm13 := Fm13.binds (ps := ["self", "number"]) fun _ _ _ _ _ _ us hl => match us, hl with | [_, _], _ => rfl
  have Mm13 : Meth K C "beats" fm13 := ⟨am13, im13, km13⟩
  have Fm14 := fun_mk (st := (bm 14)) lm14 cm14 km14
  have Bm14 := Fm14.binds (ps := ["self", "call", "time"]) fun _ _ _ _ _ _ us hl => match us, hl with | [_, _, _], _ => rfl
  have Mm14 : Meth K C "on_time" fm14 := ⟨am14, im14, km14⟩
  have Fm15 := fun_mk (st := (bm 15)) lm15 cm15 km15
  have Bm15 := Fm15.binds (ps := ["self", "call", "numbers"]) fun _ _ _ _ _ _ us hl => match us, hl with | [_, _, _], _ => rfl
  have Mm15 : Meth K C "answered" fm15 := ⟨am15, im15, km15⟩
  have Fm16 := fun_mk (st := (bm 16)) lm16 cm16 km16
  have Bm16 := Fm16.binds (ps := ["self", "call", "numbers"]) fun _ _ _ _ _ _ us hl => match us, hl with | [_, _, _], _ => rfl
  have Mm16 : Meth K C "answer" fm16 := ⟨am16, im16, km16⟩
  have FR := fun_mk (st := sRefInit) lR cR kR
  have BR := FR.binds (ps := ["self", "number", "call"]) fun _ _ _ _ _ _ us hl => match us, hl with | [_, _, _], _ => rfl
  have T : BeatTxt K mg C := ⟨⟨pg, hd, po, sa⟩, n_low, n_high, n_off, n_seen, n_stretches, PySem.W.mg_of X G aC⟩
  have RT : RefTxt K mg RC fR := ⟨⟨⟨nmR, qR, NR, bsR, _, snR, subR, abR, colR, ddR, k0R, k1R, k2R, k3R, k5R, xR, by decide +kernel⟩, saR, eRC, tRC, kRC⟩, iR, tR, noN, noC, PySem.W.mg_of X G aR, ⟨gaR, ggR, eRC, hRC⟩, exm_self eRC icRC tRC sRC, vV, b_ValueError⟩
  have Cn : Consts mg := ⟨⟨_, PySem.W.mg_of X G k_0⟩, ⟨_, PySem.W.mg_of X G k_1⟩, ⟨_, PySem.W.mg_of X G k_2⟩, ⟨_, PySem.W.mg_of X G k_3⟩, ⟨_, PySem.W.mg_of X G k_4⟩, ⟨_, PySem.W.mg_of X G k_5⟩, ⟨_, PySem.W.mg_of X G k_6⟩, ⟨_, PySem.W.mg_of X G k_7⟩, ⟨_, PySem.W.mg_of X G k_8⟩, ⟨_, PySem.W.mg_of X G k_9⟩, ⟨_, PySem.W.mg_of X G k_10⟩⟩
  have TT : ToldTxt K mg aT := ⟨PySem.W.mg_of X G gT, fun H => .inr ⟨_, #[.int 3 w0, .int 1 w1, .int 1 w2, .int 0 w3, .int 2 w4, .int 1 w5, .int 2 w6, .int 1 w7, .int 3 w8, .int 0 w9, .int 0 w10], nT, lT, rfl, rfl, (by show 11 ≤ sizeLine; decide), .cons ⟨w0, rfl⟩ (.cons ⟨w1, rfl⟩ (.cons ⟨w2, rfl⟩ (.cons ⟨w3, rfl⟩ (.cons ⟨w4, rfl⟩ (.cons ⟨w5, rfl⟩ (.cons ⟨w6, rfl⟩ (.cons ⟨w7, rfl⟩ (.cons ⟨w8, rfl⟩ (.cons ⟨w9, rfl⟩ (.cons ⟨w10, rfl⟩ (.nil)))))))))))⟩⟩
  refine ⟨PySem.W.fnOf "answers" "answers" (defArgs sAnswers) (defBody sAnswers) (defScope sAnswers) .none kVt16 dct16 pmt16 ant16 cdt16 ctt16, fun s us hu => match us, hu with | [_], _ => .of_eq rfl, fun base _ _ => ?_⟩
  have C_fraction : Cal P w K mg base CX0 1 "fraction" ["above", "below"] spFraction := ⟨ft0, _, ok_fraction Ft0 b_abs, gt0, kt0, Bt0⟩
  have C_is_less : Cal P w K mg base CX0 1 "is_less" ["one", "other"] spIsLess := ⟨ft1, _, ok_isless Ft1, gt1, kt1, Bt1⟩
  have C_lesser : Cal P w K mg base CX0 2 "lesser" ["one", "other"] spLesser := ⟨ft2, _, ok_lesser Ft2 C_is_less, gt2, kt2, Bt2⟩
  have C_greater : Cal P w K mg base CX0 2 "greater" ["one", "other"] spGreater := ⟨ft3, _, ok_greater Ft3 C_is_less, gt3, kt3, Bt3⟩
  have C_less_times : Cal P w K mg base CX0 2 "less_times" ["number", "many", "one"] spLessTimes := ⟨ft4, _, ok_less_times Ft4 C_fraction, gt4, kt4, Bt4⟩
  have C_plus_times : Cal P w K mg base CX0 2 "plus_times" ["start", "many", "one"] spPlusTimes := ⟨ft5, _, ok_plus_times Ft5 C_fraction, gt5, kt5, Bt5⟩
  have C_rounded_up : Cal P w K mg base CX0 1 "rounded_up" ["above", "below"] spRoundedUp := ⟨ft6, _, ok_rounded_up Ft6 , gt6, kt6, Bt6⟩
  have C_narrowed : Cal P w K mg base CX0 3 "narrowed" ["low", "high", "apart", "many", "off"] spNarrowed := ⟨ft7, _, ok_narrowed Ft7 C_fraction C_is_less C_greater C_lesser, gt7, kt7, Bt7⟩
  have C_with_beat : Cal P w K mg base CX0 4 "with_beat" ["stretch", "times", "time", "beat", "off"] spWithBeat := ⟨ft8, _, ok_with_beat Ft8 b_zip C_narrowed, gt8, kt8, Bt8⟩
  have C_beats_for : Cal P w K mg base CX0 2 "beats_for" ["stretch", "apart", "off"] spBeatsFor := ⟨ft9, _, ok_beats_for Ft9 b_max b_list b_range C_rounded_up, gt9, kt9, Bt9⟩
  have C_in_order : Cal P w K mg base CX0 2 "in_order" ["stretches"] spInOrder := ⟨ft11, _, ok_in_order Ft11 b_len C_is_less, gt11, kt11, Bt11⟩
  have C_stretches_of : Cal P w K mg base CX0 5 "stretches_of" ["low", "high", "off", "times"] (spStretchesOf K) := ⟨ft10, _, ok_stretches_of Ft10 b_min b_len b_range C_beats_for C_with_beat C_in_order, gt10, kt10, Bt10⟩
  have C_beats_by : Cal P w K mg base CX0 2 "beats_by" ["stretches", "period"] spBeatsBy := ⟨ft12, _, ok_beats_by Ft12 C_is_less, gt12, kt12, Bt12⟩
  have C_window_of : Cal P w K mg base CX0 3 "window_of" ["times", "beats", "off", "period"] (spWindowOf K) := ⟨ft13, _, ok_window_of Ft13 b_zip C_less_times C_greater C_lesser, gt13, kt13, Bt13⟩
  have GR : FnOk P w K mg base CX0 1 fR _ ["self", "number", "call"] (spRefInit RC) := ok_ref_init FR RT
  have C_want : Cal P w K mg base (L2.CX P w) 3 "want" ["is_so", "number"] (spWant RC) := ⟨ft14, _, ok_want Ft14 RT GR BR, gt14, kt14, Bt14⟩
  have C_counted : Cal P w K mg base CX0 1 "counted" ["row"] spCounted := ⟨ft15, _, ok_counted Ft15 b_len, gt15, kt15, Bt15⟩
  have G0 : FnOk P w K mg base CX0 6 fm0 _ ["self"] (spInit C) := ok_init Fm0 T C_stretches_of
  have C_stretches_with : CalM P w K mg base CX0 6 C "stretches_with" ["self", "times"] (spStretchesWith K C) := ⟨fm1, _, ok_stretches_with Fm1 T b_sorted C_stretches_of, Mm1, Bm1⟩
  have C_put : CalM P w K mg base CX0 7 C "put" ["self", "times"] (spPut K C) := ⟨fm3, _, ok_put Fm3 T b_sorted C_stretches_with, Mm3, Bm3⟩
  have C_begin : CalM P w K mg base (L2.CX P w) 8 C "begin" ["self", "low", "high", "off"] (spBegin C RC) := ⟨fm2, _, ok_begin Fm2 T Cn C_want C_put, Mm2, Bm2⟩
  have C_see : CalM P w K mg base (L2.CX P w) 8 C "see" ["self", "time"] (spOne C RC Sy41.Call.seen) := ⟨fm4, _, ok_see Fm4 T Cn b_len C_want C_put C_stretches_with, Mm4, Bm4⟩
  have C_drop : CalM P w K mg base (L2.CX P w) 8 C "drop" ["self", "time"] (spOne C RC Sy41.Call.drop) := ⟨fm5, _, ok_drop Fm5 T Cn b_len C_want C_put, Mm5, Bm5⟩
  have C_could : CalM P w K mg base (L2.CX P w) 7 C "could" ["self", "time"] (spOne C RC Sy41.Call.could) := ⟨fm9, _, ok_could Fm9 T Cn b_len C_want C_stretches_with, Mm9, Bm9⟩
  have C_periods : CalM P w K mg base (L2.CX P w) 2 C "periods" ["self"] (spNone C RC .periods) := ⟨fm6, _, ok_periods Fm6 T b_len b_list C_counted, Mm6, Bm6⟩
  have C_period : CalM P w K mg base (L2.CX P w) 4 C "period" ["self", "above", "below"] (spPeriod RC) := ⟨fm7, _, ok_period Fm7 Cn C_want C_fraction, Mm7, Bm7⟩
  have C_fits : CalM P w K mg base (L2.CX P w) 5 C "fits" ["self", "above", "below"] (spTwo C RC Sy41.Call.fits) := ⟨fm8, _, ok_fits Fm8 T C_beats_by C_counted C_period, Mm8, Bm8⟩
  have C_bounds : CalM P w K mg base (L2.CX P w) 4 C "bounds" ["self", "period"] (spBounds C RC) := ⟨fm10, _, ok_bounds Fm10 T Cn C_want C_beats_by C_window_of, Mm10, Bm10⟩
  have C_window : CalM P w K mg base (L2.CX P w) 5 C "window" ["self", "above", "below"] (spTwo C RC Sy41.Call.window) := ⟨fm11, _, ok_window Fm11 T b_list C_counted C_period C_bounds, Mm11, Bm11⟩
  have C_later : CalM P w K mg base (L2.CX P w) 5 C "later" ["self", "above", "below", "time"] (spThree C RC Sy41.Call.next) := ⟨fm12, _, ok_later Fm12 T Cn b_list C_want C_counted C_rounded_up C_plus_times C_period C_bounds, Mm12, Bm12⟩
  have C_beats : CalM P w K mg base (L2.CX P w) 4 C "beats" ["self", "number"] (spOne C RC Sy41.Call.beats) := ⟨fm13, _, ok_beats Fm13 T Cn b_len C_want C_counted, Mm13, Bm13⟩
  have C_on_time : CalM P w K mg base (L2.CX P w) 9 C "on_time" ["self", "call", "time"] (spOnTime C RC) := ⟨fm14, _, ok_on_time Fm14 T C_see C_drop C_could, Mm14, Bm14⟩
  have C_answered : CalM P w K mg base (L2.CX P w) 10 C "answered" ["self", "call", "numbers"] (spAnswered K C RC) := ⟨fm15, _, ok_answered Fm15 T b_len b_int b_list C_counted ⟨C_begin, C_on_time, C_periods, C_fits, C_window, C_beats, C_later⟩, Mm15, Bm15⟩
  have C_answer : CalM P w K mg base CX0 11 C "answer" ["self", "call", "numbers"] (spAnswer K C) := ⟨fm16, _, ok_answer Fm16 T RT C_answered, Mm16, Bm16⟩
  exact ok_answers Ft16 T TT b_len ⟨mk, am0, im0, kc⟩ G0 Bm0 C_answer
end EW
open PySem PySem.W PyProof.Rows
set_option maxRecDepth 100000 in
set_option maxHeartbeats 16000000 in
theorem PySem.Challenge.cw_evenbeats_s01_answers_holds : PySem.Challenge.rw_evenbeats_s01_answers.Holds := by
  w_on; k_headS; (case hw => exact ⟨[.list [.int 3]], by decide +kernel, by decide +kernel⟩)
  k_fillS
  refine L2.walk_specK (r := PySem.Challenge.rw_evenbeats_s01_answers) (k := 12) (CX := L2.CX0) (ps := ["calls"]) (sp := EW.spAnswers) (by decide +kernel) rfl rfl ⟨rfl, by decide, by decide⟩ (fun w h Y => PySem.W.kIn_of Y) ?F ?S (fun _ _ _ _ z => z)
  case F =>
    intro w mg fa h Y KX G hmg
    refine' EW.all_mk KX G hmg ?aC ?aR ?gT ?at0 ?lt0 ?ct0 ?kt0 ?at1 ?lt1 ?ct1 ?kt1 ?at2 ?lt2 ?ct2 ?kt2 ?at3 ?lt3 ?ct3 ?kt3 ?at4 ?lt4 ?ct4 ?kt4 ?at5 ?lt5 ?ct5 ?kt5 ?at6 ?lt6 ?ct6 ?kt6 ?at7 ?lt7 ?ct7 ?kt7 ?at8 ?lt8 ?ct8 ?kt8 ?at9 ?lt9 ?ct9 ?kt9 ?at10 ?lt10 ?ct10 ?kt10 ?at11 ?lt11 ?ct11 ?kt11 ?at12 ?lt12 ?ct12 ?kt12 ?at13 ?lt13 ?ct13 ?kt13 ?at14 ?lt14 ?ct14 ?kt14 ?at15 ?lt15 ?ct15 ?kt15 ?at16 ?lt16 ?ct16 ?kt16 ?am0 ?im0 ?lm0 ?cm0 ?km0 ?am1 ?im1 ?lm1 ?cm1 ?km1 ?am2 ?im2 ?lm2 ?cm2 ?km2 ?am3 ?im3 ?lm3 ?cm3 ?km3 ?am4 ?im4 ?lm4 ?cm4 ?km4 ?am5 ?im5 ?lm5 ?cm5 ?km5 ?am6 ?im6 ?lm6 ?cm6 ?km6 ?am7 ?im7 ?lm7 ?cm7 ?km7 ?am8 ?im8 ?lm8 ?cm8 ?km8 ?am9 ?im9 ?lm9 ?cm9 ?km9 ?am10 ?im10 ?lm10 ?cm10 ?km10 ?am11 ?im11 ?lm11 ?cm11 ?km11 ?am12 ?im12 ?lm12 ?cm12 ?km12 ?am13 ?im13 ?lm13 ?cm13 ?km13 ?am14 ?im14 ?lm14 ?cm14 ?km14 ?am15 ?im15 ?lm15 ?cm15 ?km15 ?am16 ?im16 ?lm16 ?cm16 ?km16 ?pg ?hd ?po ?sa ?mk ?kc ?n_low ?n_high ?n_off ?n_seen ?n_stretches ?iR ?xR ?saR ?gaR ?ggR ?noN ?noC ?tR ?lR ?cR ?kR ?kRC ?eRC ?tRC ?hRC ?icRC ?sRC ?vV ?k_0 ?k_1 ?k_2 ?k_3 ?k_4 ?k_5 ?k_6 ?k_7 ?k_8 ?k_9 ?k_10 ?lT ?z_abs ?z_max ?z_min ?z_list ?z_range ?z_zip ?z_len ?z_sorted ?z_int ?z_ValueError
    (case aC => k_is)
    (case aR => k_is)
    (case gT => k_is)
    (case at0 => k_is)
    (case lt0 => k_is)
    (case ct0 => k_is)
    (case kt0 => k_is)
    (case at1 => k_is)
    (case lt1 => k_is)
    (case ct1 => k_is)
    (case kt1 => k_is)
    (case at2 => k_is)
    (case lt2 => k_is)
    (case ct2 => k_is)
    (case kt2 => k_is)
    (case at3 => k_is)
    (case lt3 => k_is)
    (case ct3 => k_is)
    (case kt3 => k_is)
    (case at4 => k_is)
    (case lt4 => k_is)
    (case ct4 => k_is)
    (case kt4 => k_is)
    (case at5 => k_is)
    (case lt5 => k_is)
    (case ct5 => k_is)
    (case kt5 => k_is)
    (case at6 => k_is)
    (case lt6 => k_is)
    (case ct6 => k_is)
    (case kt6 => k_is)
    (case at7 => k_is)
    (case lt7 => k_is)
    (case ct7 => k_is)
    (case kt7 => k_is)
    (case at8 => k_is)
    (case lt8 => k_is)
    (case ct8 => k_is)
    (case kt8 => k_is)
    (case at9 => k_is)
    (case lt9 => k_is)
    (case ct9 => k_is)
    (case kt9 => k_is)
    (case at10 => k_is)
    (case lt10 => k_is)
    (case ct10 => k_is)
    (case kt10 => k_is)
    (case at11 => k_is)
    (case lt11 => k_is)
    (case ct11 => k_is)
    (case kt11 => k_is)
    (case at12 => k_is)
    (case lt12 => k_is)
    (case ct12 => k_is)
    (case kt12 => k_is)
    (case at13 => k_is)
    (case lt13 => k_is)
    (case ct13 => k_is)
    (case kt13 => k_is)
    (case at14 => k_is)
    (case lt14 => k_is)
    (case ct14 => k_is)
    (case kt14 => k_is)
    (case at15 => k_is)
    (case lt15 => k_is)
    (case ct15 => k_is)
    (case kt15 => k_is)
    (case at16 => k_is)
    (case lt16 => k_is)
    (case ct16 => k_is)
    (case kt16 => k_is)
    (case am0 => k_is)
    (case im0 => k_is)
    (case lm0 => k_is)
    (case cm0 => k_is)
    (case km0 => k_is)
    (case am1 => k_is)
    (case im1 => k_is)
    (case lm1 => k_is)
    (case cm1 => k_is)
    (case km1 => k_is)
    (case am2 => k_is)
    (case im2 => k_is)
    (case lm2 => k_is)
    (case cm2 => k_is)
    (case km2 => k_is)
    (case am3 => k_is)
    (case im3 => k_is)
    (case lm3 => k_is)
    (case cm3 => k_is)
    (case km3 => k_is)
    (case am4 => k_is)
    (case im4 => k_is)
    (case lm4 => k_is)
    (case cm4 => k_is)
    (case km4 => k_is)
    (case am5 => k_is)
    (case im5 => k_is)
    (case lm5 => k_is)
    (case cm5 => k_is)
    (case km5 => k_is)
    (case am6 => k_is)
    (case im6 => k_is)
    (case lm6 => k_is)
    (case cm6 => k_is)
    (case km6 => k_is)
    (case am7 => k_is)
    (case im7 => k_is)
    (case lm7 => k_is)
    (case cm7 => k_is)
    (case km7 => k_is)
    (case am8 => k_is)
    (case im8 => k_is)
    (case lm8 => k_is)
    (case cm8 => k_is)
    (case km8 => k_is)
    (case am9 => k_is)
    (case im9 => k_is)
    (case lm9 => k_is)
    (case cm9 => k_is)
    (case km9 => k_is)
    (case am10 => k_is)
    (case im10 => k_is)
    (case lm10 => k_is)
    (case cm10 => k_is)
    (case km10 => k_is)
    (case am11 => k_is)
    (case im11 => k_is)
    (case lm11 => k_is)
    (case cm11 => k_is)
    (case km11 => k_is)
    (case am12 => k_is)
    (case im12 => k_is)
    (case lm12 => k_is)
    (case cm12 => k_is)
    (case km12 => k_is)
    (case am13 => k_is)
    (case im13 => k_is)
    (case lm13 => k_is)
    (case cm13 => k_is)
    (case km13 => k_is)
    (case am14 => k_is)
    (case im14 => k_is)
    (case lm14 => k_is)
    (case cm14 => k_is)
    (case km14 => k_is)
    (case am15 => k_is)
    (case im15 => k_is)
    (case lm15 => k_is)
    (case cm15 => k_is)
    (case km15 => k_is)
    (case am16 => k_is)
    (case im16 => k_is)
    (case lm16 => k_is)
    (case cm16 => k_is)
    (case km16 => k_is)
    (case pg => k_is)
    (case hd => k_is)
    (case po => k_is)
    (case sa => k_is)
    (case mk => k_is)
    (case kc => k_is)
    (case n_low => k_is)
    (case n_high => k_is)
    (case n_off => k_is)
    (case n_seen => k_is)
    (case n_stretches => k_is)
    (case iR => k_is)
    (case xR => k_is)
    (case saR => k_is)
    (case gaR => k_is)
    (case ggR => k_is)
    (case noN => k_is)
    (case noC => k_is)
    (case tR => k_is)
    (case lR => k_is)
    (case cR => k_is)
    (case kR => k_is)
    (case kRC => k_is)
    (case eRC => k_is)
    (case tRC => k_is)
    (case hRC => k_is)
    (case icRC => k_is)
    (case sRC => first | rfl | k_is)
    (case vV => first | k_is | rfl | decide +kernel)
    (case k_0 => k_is)
    (case k_1 => k_is)
    (case k_2 => k_is)
    (case k_3 => k_is)
    (case k_4 => k_is)
    (case k_5 => k_is)
    (case k_6 => k_is)
    (case k_7 => k_is)
    (case k_8 => k_is)
    (case k_9 => k_is)
    (case k_10 => k_is)
    (case lT => k_is)
    (case z_abs => k_is)
    (case z_max => k_is)
    (case z_min => k_is)
    (case z_list => k_is)
    (case z_range => k_is)
    (case z_zip => k_is)
    (case z_len => k_is)
    (case z_sorted => k_is)
    (case z_int => k_is)
    (case z_ValueError => k_is)
  case S =>
    intro K H xs a hO hwi hask hx
    cases hx with
    | cons h1 h2 =>
      cases h2
      cases h1 with
      | lst hs ha =>
        have e := L2.ints_dw a.1 _ ha
        subst e
        have hw : (Codec.inList 0 500 (Codec.within (.int 0 4294967295)) a.1 && true) = true := hwi
        have hl : a.1.length ≤ 500 := by
          rw [Bool.and_true] at hw
          have h3 : (decide (0 ≤ a.1.length) && decide (a.1.length ≤ 500)) = true := (Bool.and_eq_true_iff.mp hw).1
          have h4 := (Bool.and_eq_true_iff.mp h3).2
          exact of_decide_eq_true h4
        exact ⟨_, a.1, rfl, hs, hl, hask, fun H' p hp => .lst (L2.SqL.of hp) (L2.dw_ints _)⟩
#print axioms PySem.Challenge.cw_evenbeats_s01_answers_holds
