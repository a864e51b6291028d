import PyProof.Rows.All
import Wide.All
import OpenK.AllK
import Wide.FinOn
import Open.SpecLaws
import KE.OsGo
import HandS.ForSpec
import HandS.Comp
import HandS.Dict
import HandS.WordsDict
import HandS.Iter
import HandS.Deep
import HandS.Style
import HandS.Conv
import HandS.Flow
import HandS.ExcInit
import HandS.ExcField
import HandS.SortKw
import KE.SortKeyHeap
import PySem.Challenge.RW_foldedline_s01_answers
import Su183Spec
set_option Elab.async false
set_option linter.all false
set_option maxRecDepth 100000
set_option maxHeartbeats 2000000
namespace FL
open Su183

structure WF (g : Abs) : Prop where
  len : g.to.length = g.n + 1
  pos : 1 ≤ g.n
  six : g.n ≤ 6
  all : ∀ v ∈ g.to, v ≤ g.n

theorem WF.point_le {g : Abs} (h : WF g) (i : Nat) : g.point i ≤ g.n := by
  unfold Abs.point
  rw [List.getD_eq_getElem?_getD]
  cases e : g.to[i]? with
  | none => simp
  | some v =>
    simp
    exact h.all v (List.mem_of_getElem? e)

/-! ## Fractions -/
def Red (a : Frac) : Prop := 0 < a.2 ∧ Nat.gcd a.1.natAbs a.2 = 1

theorem red_parts (x : Int) (y : Nat) (hy : 0 < y) : ∃ c : Nat, 0 < c ∧ x = c * (red x y).1 ∧ y = c * (red x y).2 ∧ 0 < (red x y).2 := by
  refine ⟨Nat.gcd x.natAbs y, Nat.gcd_pos_of_pos_right _ hy, ?_, ?_, ?_⟩
  · unfold red
    have : ((Nat.gcd x.natAbs y : Nat) : Int) ∣ x := by
      have := Nat.gcd_dvd_left x.natAbs y
      exact Int.ofNat_dvd_left.mpr this
    exact (Int.mul_ediv_cancel' this).symm
  · unfold red
    exact (Nat.mul_div_cancel' (Nat.gcd_dvd_right x.natAbs y)).symm
  · unfold red
    exact Nat.div_pos (Nat.le_of_dvd hy (Nat.gcd_dvd_right x.natAbs y)) (Nat.gcd_pos_of_pos_right _ hy)

theorem red_pos {x : Int} {y : Nat} (hy : 0 < y) : 0 < (red x y).2 := by
  obtain ⟨_, _, _, _, h⟩ := red_parts x y hy
  exact h

theorem red_cross {x : Int} {y : Nat} (hy : 0 < y) : (red x y).1 * (y : Int) = x * ((red x y).2 : Int) := by
  obtain ⟨c, hc, h1, h2, _⟩ := red_parts x y hy
  have h2' : (y : Int) = c * ((red x y).2 : Int) := by exact_mod_cast h2
  generalize red x y = a at *
  rw [h2', h1]
  grind

theorem red_isRed {x : Int} {y : Nat} (hy : 0 < y) : Red (red x y) := by
  refine ⟨red_pos hy, ?_⟩
  unfold red
  have hg : 0 < Nat.gcd x.natAbs y := Nat.gcd_pos_of_pos_right _ hy
  have e : (x / ((Nat.gcd x.natAbs y : Nat) : Int)).natAbs = x.natAbs / Nat.gcd x.natAbs y := by
    have hd : ((Nat.gcd x.natAbs y : Nat) : Int) ∣ x := Int.ofNat_dvd_left.mpr (Nat.gcd_dvd_left x.natAbs y)
    rw [Int.natAbs_ediv_of_dvd hd]
    rfl
  show Nat.gcd (x / ((Nat.gcd x.natAbs y : Nat) : Int)).natAbs (y / Nat.gcd x.natAbs y) = 1
  rw [e]
  exact Nat.coprime_div_gcd_div_gcd hg

theorem red_self {a : Frac} (h : Red a) : red a.1 a.2 = a := by
  unfold red
  rw [h.2]
  simp

theorem Red.eq_of_cross {a b : Frac} (ha : Red a) (hb : Red b) (h : a.1 * (b.2 : Int) = b.1 * (a.2 : Int)) : a = b := by
  obtain ⟨a1, a2⟩ := a
  obtain ⟨b1, b2⟩ := b
  obtain ⟨ha0, ha⟩ := ha
  obtain ⟨hb0, hb⟩ := hb
  dsimp only at *
  have hn : a1.natAbs * b2 = b1.natAbs * a2 := by
    have := congrArg Int.natAbs h
    rwa [Int.natAbs_mul, Int.natAbs_mul, Int.natAbs_natCast, Int.natAbs_natCast] at this
  have d1 : a2 ∣ b2 := by
    have : a2 ∣ a1.natAbs * b2 := ⟨b1.natAbs, by rw [hn, Nat.mul_comm]⟩
    exact (Nat.Coprime.dvd_of_dvd_mul_left (by rw [Nat.coprime_comm]; exact ha) this)
  have d2 : b2 ∣ a2 := by
    have : b2 ∣ b1.natAbs * a2 := ⟨a1.natAbs, by rw [← hn, Nat.mul_comm]⟩
    exact (Nat.Coprime.dvd_of_dvd_mul_left (by rw [Nat.coprime_comm]; exact hb) this)
  have e := Nat.dvd_antisymm d1 d2
  subst e
  have hp : (a2 : Int) ≠ 0 := by omega
  have := Int.eq_of_mul_eq_mul_right hp h
  rw [this]

theorem red_eq {x x' : Int} {y y' : Nat} (hy : 0 < y) (hy' : 0 < y') : red x y = red x' y' ↔ x * (y' : Int) = x' * (y : Int) := by
  obtain ⟨c, hc, h1, h2, h3⟩ := red_parts x y hy
  obtain ⟨c', hc', h1', h2', h3'⟩ := red_parts x' y' hy'
  have k2 : (y : Int) = c * ((red x y).2 : Int) := by exact_mod_cast h2
  have k2' : (y' : Int) = c' * ((red x' y').2 : Int) := by exact_mod_cast h2'
  constructor
  · intro e
    rw [k2, k2', h1, h1', e]
    simp only [Int.mul_assoc, Int.mul_left_comm, Int.mul_comm]
    grind
  · intro e
    apply Red.eq_of_cross (red_isRed hy) (red_isRed hy')
    generalize red x y = a at *
    generalize red x' y' = b at *
    rw [h1, h1', k2, k2'] at e
    have hcc : ((c : Int) * c') ≠ 0 := by
      apply Int.mul_ne_zero <;> omega
    apply Int.eq_of_mul_eq_mul_left hcc
    grind

theorem red_lt {x x' : Int} {y y' : Nat} (hy : 0 < y) (hy' : 0 < y') : lt (red x y) (red x' y') = decide (x * (y' : Int) < x' * (y : Int)) := by
  obtain ⟨c, hc, h1, h2, h3⟩ := red_parts x y hy
  obtain ⟨c', hc', h1', h2', h3'⟩ := red_parts x' y' hy'
  have k2 : (y : Int) = c * ((red x y).2 : Int) := by exact_mod_cast h2
  have k2' : (y' : Int) = c' * ((red x' y').2 : Int) := by exact_mod_cast h2'
  unfold lt
  generalize red x y = a at *
  generalize red x' y' = b at *
  have hcc : (0 : Int) < (c : Int) * c' := by
    apply Int.mul_pos <;> omega
  have e : (a.1 * (b.2 : Int) < b.1 * (a.2 : Int)) ↔ (x * (y' : Int) < x' * (y : Int)) := by
    rw [h1, h1', k2, k2']
    have q1 : (c : Int) * a.1 * (c' * (b.2 : Int)) = (c * c') * (a.1 * b.2) := by grind
    have q2 : (c' : Int) * b.1 * (c * (a.2 : Int)) = (c * c') * (b.1 * a.2) := by grind
    rw [q1, q2]
    exact (Int.mul_lt_mul_left hcc).symm
  exact decide_eq_decide.mpr e

theorem red_ediv {x : Int} {y : Nat} (hy : 0 < y) : (red x y).1 / ((red x y).2 : Int) = x / (y : Int) := by
  obtain ⟨c, hc, h1, h2, h3⟩ := red_parts x y hy
  have k2 : (y : Int) = c * ((red x y).2 : Int) := by exact_mod_cast h2
  generalize red x y = a at *
  rw [h1, k2]
  rw [Int.mul_ediv_mul_of_pos]
  omega

/-! ## Putting, over one number below -/
/-- a piece's own rule, over the number below B -/
def Lp (g : Abs) (j : Nat) (B X : Int) : Int := (g.point j : Int) * B + g.slope j * (X - (j : Int) * B)
def pc (g : Abs) (B X : Int) : Nat := min (g.n - 1) (X / B).toNat
def Fn (g : Abs) (B X : Int) : Int := Lp g (pc g B X) B X
def InL (g : Abs) (B X : Int) : Prop := 0 ≤ X ∧ X ≤ (g.n : Int) * B

theorem put_red {g : Abs} {X : Int} {B : Nat} (hB : 0 < B) : g.put (red X B) = red (Fn g B X) B := by
  have hp : g.pieceOf (red X B) = pc g B X := by
    unfold Abs.pieceOf pc
    rw [red_ediv hB]
  unfold Abs.put
  show red ((g.point (g.pieceOf (red X B)) : Int) * ((red X B).2 : Int) + g.slope (g.pieceOf (red X B)) * ((red X B).1 - (g.pieceOf (red X B) : Int) * ((red X B).2 : Int))) (red X B).2 = red (Fn g B X) B
  rw [hp]
  rw [red_eq (red_pos hB) hB]
  unfold Fn Lp
  obtain ⟨c, hc, h1, h2, h3⟩ := red_parts X B hB
  have k2 : (B : Int) = c * ((red X B).2 : Int) := by exact_mod_cast h2
  generalize pc g B X = i
  generalize red X B = a at *
  rw [h1, k2]
  grind

theorem put_Red {g : Abs} {a : Frac} (h : Red a) : g.put a = red (Fn g a.2 a.1) a.2 := by
  have := put_red (g := g) (X := a.1) h.1
  rwa [red_self h] at this

theorem put_isRed {g : Abs} {a : Frac} (h : Red a) : Red (g.put a) := by
  rw [put_Red h]
  exact red_isRed h.1

theorem slope_eq (g : Abs) (j : Nat) : g.slope j = (g.point (j + 1) : Int) - g.point j := rfl

theorem Lp_mix (g : Abs) (j : Nat) (B X : Int) : Lp g j B X = (g.point j : Int) * (B - (X - j * B)) + (g.point (j+1) : Int) * (X - j * B) := by
  unfold Lp
  rw [slope_eq]
  grind

theorem Lp_in {g : Abs} (h : WF g) {j : Nat} {B X : Int} (h1 : (j : Int) * B ≤ X) (h2 : X ≤ (j + 1 : Int) * B) : InL g B (Lp g j B X) := by
  rw [Lp_mix]
  have p1 := h.point_le j
  have p2 := h.point_le (j + 1)
  generalize ht : X - (j : Int) * B = t
  have t0 : 0 ≤ t := by omega
  have t1 : 0 ≤ B - t := by
    have : (j + 1 : Int) * B = j * B + B := by grind
    omega
  generalize hu : B - t = u at *
  have a1 : (g.point j : Int) * u ≤ (g.n : Int) * u := Int.mul_le_mul_of_nonneg_right (by omega) t1
  have a2 : (g.point (j+1) : Int) * t ≤ (g.n : Int) * t := Int.mul_le_mul_of_nonneg_right (by omega) t0
  have b1 : 0 ≤ (g.point j : Int) * u := Int.mul_nonneg (by omega) t1
  have b2 : 0 ≤ (g.point (j+1) : Int) * t := Int.mul_nonneg (by omega) t0
  have hB : (g.n : Int) * B = (g.n : Int) * u + g.n * t := by
    have : B = u + t := by omega
    rw [this, Int.mul_add]
  constructor
  · omega
  · omega

theorem pc_lt {g : Abs} (h : WF g) (B X : Int) : pc g B X < g.n := by
  unfold pc
  have := h.pos
  omega

theorem pc_bounds {g : Abs} (h : WF g) {B X : Int} (hB : 0 < B) (hX : InL g B X) : (pc g B X : Int) * B ≤ X ∧ X ≤ (pc g B X + 1 : Int) * B := by
  obtain ⟨h0, h1⟩ := hX
  have hp := h.pos
  have hd0 : 0 ≤ X / B := Int.ediv_nonneg h0 (by omega)
  have hd1 : X / B * B ≤ X := Int.ediv_mul_le X (by omega)
  have hd2 : X < (X / B + 1) * B := Int.lt_ediv_add_one_mul_self X hB
  unfold pc
  by_cases c : (X / B).toNat ≤ g.n - 1
  · rw [Nat.min_eq_right c]
    have e : (((X / B).toNat : Nat) : Int) = X / B := by omega
    rw [e]
    omega
  · rw [Nat.min_eq_left (by omega)]
    have e : ((g.n - 1 : Nat) : Int) = (g.n : Int) - 1 := by omega
    rw [e]
    have k : (g.n : Int) - 1 ≤ X / B := by omega
    have k2 : ((g.n : Int) - 1) * B ≤ X / B * B := Int.mul_le_mul_of_nonneg_right k (by omega)
    have k3 : ((g.n : Int) - 1 + 1) * B = g.n * B := by grind
    omega

theorem Fn_in {g : Abs} (h : WF g) {B X : Int} (hB : 0 < B) (hX : InL g B X) : InL g B (Fn g B X) :=
  have b := pc_bounds h hB hX
  Lp_in h b.1 b.2

/-- within a piece, its rule -/
theorem Fn_piece {g : Abs} (h : WF g) {j : Nat} (hj : j < g.n) {B X : Int} (hB : 0 < B) (h1 : (j : Int) * B ≤ X) (h2 : X ≤ (j + 1 : Int) * B) : Fn g B X = Lp g j B X := by
  have hX : InL g B X := by
    constructor
    · have : 0 ≤ (j : Int) * B := Int.mul_nonneg (by omega) (by omega)
      omega
    · have : (j + 1 : Int) * B ≤ (g.n : Int) * B := Int.mul_le_mul_of_nonneg_right (by omega) (by omega)
      omega
  have b := pc_bounds h hB hX
  unfold Fn
  generalize pc g B X = i at *
  by_cases e : i = j
  · rw [e]
  · have hd : i = j + 1 ∨ j = i + 1 := by
      by_cases c1 : i < j
      · right
        have : X ≤ (i + 1 : Int) * B := b.2
        have : ¬ (i + 1 < j) := fun q => by
          have : (i + 1 + 1 : Int) * B ≤ j * B := Int.mul_le_mul_of_nonneg_right (by omega) (by omega)
          have : (i + 1 + 1 : Int) * B = (i + 1 : Int) * B + B := by grind
          omega
        omega
      · left
        have : (i : Int) * B ≤ X := b.1
        have : ¬ (j + 1 < i) := fun q => by
          have : (j + 1 + 1 : Int) * B ≤ i * B := Int.mul_le_mul_of_nonneg_right (by omega) (by omega)
          have : (j + 1 + 1 : Int) * B = (j + 1 : Int) * B + B := by grind
          omega
        omega
    rcases hd with rfl | rfl
    · have eX : X = (j + 1 : Int) * B := by
        have := b.1
        have : ((j + 1 : Nat) : Int) * B = (j + 1 : Int) * B := by norm_cast
        omega
      subst eX
      rw [Lp_mix, Lp_mix]
      push_cast
      grind
    · have eX : X = (i + 1 : Int) * B := by
        have := b.2
        have : ((i + 1 : Nat) : Int) * B = (i + 1 : Int) * B := by norm_cast
        omega
      subst eX
      rw [Lp_mix, Lp_mix]
      push_cast
      grind

end FL

namespace FL
open Su183

/-! ## Again and again -/
def it (g : Abs) (B X : Int) : Nat → Int
  | 0 => X
  | k + 1 => Fn g B (it g B X k)

theorem it_add (g : Abs) (B X : Int) (j : Nat) : ∀ k, it g B X (j + k) = it g B (it g B X j) k
  | 0 => rfl
  | k + 1 => by
    show Fn g B (it g B X (j + k)) = Fn g B (it g B (it g B X j) k)
    rw [it_add g B X j k]

theorem it_one (g : Abs) (B X : Int) : it g B X 1 = Fn g B X := rfl

theorem it_succ' (g : Abs) (B X : Int) (k : Nat) : it g B X (k + 1) = it g B (Fn g B X) k := by
  rw [Nat.add_comm, it_add]
  rfl

theorem it_in {g : Abs} (h : WF g) {B X : Int} (hB : 0 < B) (hX : InL g B X) : ∀ k, InL g B (it g B X k)
  | 0 => hX
  | k + 1 => Fn_in h hB (it_in h hB hX k)

theorem it_mul {g : Abs} {B X : Int} {k : Nat} (e : it g B X k = X) : ∀ m, it g B X (k * m) = X
  | 0 => rfl
  | m + 1 => by
    rw [Nat.mul_succ, it_add, it_mul e m, e]

theorem after_succ' (g : Abs) : ∀ (k : Nat) (x : Frac), g.after x (k + 1) = g.put (g.after x k)
  | 0, x => rfl
  | k + 1, x => by
    show g.after (g.put x) (k + 1) = g.put (g.after (g.put x) k)
    exact after_succ' g k (g.put x)

theorem after_red {g : Abs} {X : Int} {B : Nat} (hB : 0 < B) : ∀ k, g.after (red X B) k = red (it g B X k) B
  | 0 => rfl
  | k + 1 => by
    rw [after_succ', after_red hB k, put_red hB]
    rfl

theorem way_eq (g : Abs) : ∀ (k : Nat) (x : Frac), g.way x k = (List.range k).map (g.after x)
  | 0, x => rfl
  | k + 1, x => by
    show x :: g.way (g.put x) k = _
    rw [way_eq g k (g.put x), List.range_succ_eq_map, List.map_cons, List.map_map]
    rfl

theorem way_red {g : Abs} {X : Int} {B : Nat} (hB : 0 < B) (k : Nat) : g.way (red X B) k = (List.range k).map fun j => red (it g B X j) B := by
  rw [way_eq]
  apply List.map_congr_left
  intro j _
  exact after_red hB j

theorem red_inj {X Y : Int} {B : Nat} (hB : 0 < B) : red X B = red Y B ↔ X = Y := by
  rw [red_eq hB hB]
  constructor
  · intro e
    exact Int.eq_of_mul_eq_mul_right (by omega) e
  · intro e
    rw [e]

theorem back_iff {g : Abs} {x : Frac} {k : Nat} : g.back x k = true ↔ 0 < k ∧ g.after x k = x ∧ ∀ j, 0 < j → j < k → g.after x j ≠ x := by
  unfold Abs.back
  rw [Bool.and_eq_true, Bool.and_eq_true, decide_eq_true_iff, beq_iff_eq, List.all_eq_true]
  constructor
  · rintro ⟨h1, h2, h3⟩
    refine ⟨h1, h2, fun j j0 jk e => ?_⟩
    have := h3 j (List.mem_range.mpr jk)
    rw [Bool.or_eq_true, beq_iff_eq, bne_iff_ne] at this
    rcases this with h | h
    · omega
    · exact h e
  · rintro ⟨h1, h2, h3⟩
    refine ⟨h1, h2, fun j hj => ?_⟩
    rw [Bool.or_eq_true, beq_iff_eq, bne_iff_ne]
    by_cases j0 : j = 0
    · exact .inl j0
    · exact .inr (h3 j (by omega) (List.mem_range.mp hj))

/-- in k steps for the first time back, over one number below -/
def Bk (g : Abs) (B X : Int) (k : Nat) : Prop := 0 < k ∧ it g B X k = X ∧ ∀ j, 0 < j → j < k → it g B X j ≠ X

theorem back_red {g : Abs} {X : Int} {B : Nat} (hB : 0 < B) {k : Nat} : g.back (red X B) k = true ↔ Bk g B X k := by
  rw [back_iff]
  unfold Bk
  constructor
  · rintro ⟨h1, h2, h3⟩
    rw [after_red hB, red_inj hB] at h2
    refine ⟨h1, h2, fun j j0 jk e => h3 j j0 jk ?_⟩
    rw [after_red hB, e]
  · rintro ⟨h1, h2, h3⟩
    refine ⟨h1, by rw [after_red hB, h2], fun j j0 jk e => h3 j j0 jk ?_⟩
    rwa [after_red hB, red_inj hB] at e

/-- two that come back in k steps, one behind j steps of the other -/
theorem Bk.shift {g : Abs} {B X : Int} {k : Nat} (h : Bk g B X k) (m : Nat) : Bk g B (it g B X m) k := by
  obtain ⟨h1, h2, h3⟩ := h
  refine ⟨h1, ?_, fun j j0 jk e => h3 j j0 jk ?_⟩
  · rw [← it_add, Nat.add_comm, it_add, h2]
  · -- go on till a full number of turns
    have e2 : it g B X (m + j) = it g B X m := by rw [it_add, e]
    have hk : m ≤ k * m := Nat.le_mul_of_pos_left m h1
    have a : it g B X (k * m + j) = it g B X (k * m) := by
      have q1 : k * m + j = (m + j) + (k * m - m) := by omega
      have q2 : k * m = m + (k * m - m) := by omega
      rw [q1, it_add, e2, ← it_add, ← q2]
    rw [it_add, it_mul h2] at a
    exact a

theorem it_mod {g : Abs} {B X : Int} {k : Nat} (e : it g B X k = X) (m : Nat) : it g B X m = it g B X (m % k) := by
  have h := Nat.div_add_mod m k
  conv => lhs; rw [← h]
  rw [it_add, it_mul e]

/-! ## Walks of pieces -/
def aff (g : Abs) (z : Int × Int) (i : Nat) : Int × Int := (g.slope i * z.1, (g.point i : Int) + g.slope i * (z.2 - (i : Int)))
theorem along_def (g : Abs) (w : List Nat) : g.along w = w.foldl (aff g) (1, 0) := rfl

theorem along_gen (g : Abs) : ∀ (w : List Nat) (z : Int × Int), w.foldl (aff g) z = ((g.along w).1 * z.1, (g.along w).1 * z.2 + (g.along w).2)
  | [], z => by
    show z = ((1 : Int) * z.1, (1 : Int) * z.2 + 0)
    simp
  | j :: r, z => by
    rw [along_def]
    simp only [List.foldl_cons]
    rw [along_gen g r (aff g z j), along_gen g r (aff g (1, 0) j)]
    simp only [aff]
    refine Prod.ext ?_ ?_
    · dsimp only
      grind
    · dsimp only
      grind

theorem along_cons (g : Abs) (j : Nat) (r : List Nat) : g.along (j :: r) = ((g.along r).1 * g.slope j, (g.along r).1 * ((g.point j : Int) - g.slope j * j) + (g.along r).2) := by
  rw [along_def]
  simp only [List.foldl_cons]
  rw [along_gen g r]
  simp only [aff]
  refine Prod.ext ?_ ?_
  · dsimp only
    grind
  · dsimp only
    grind

theorem along_append (g : Abs) (u v : List Nat) : g.along (u ++ v) = ((g.along v).1 * (g.along u).1, (g.along v).1 * (g.along u).2 + (g.along v).2) := by
  rw [along_def, List.foldl_append, along_gen g v, ← along_def]

def alN (g : Abs) (B : Int) (w : List Nat) (X : Int) : Int := w.foldl (fun X i => Lp g i B X) X

theorem alN_eq (g : Abs) (B : Int) : ∀ (w : List Nat) (X : Int), alN g B w X = (g.along w).1 * X + (g.along w).2 * B
  | [], X => by
    show X = (1 : Int) * X + 0 * B
    simp
  | j :: r, X => by
    show alN g B r (Lp g j B X) = _
    rw [alN_eq g B r, along_cons]
    unfold Lp
    dsimp only
    grind

/-- from the piece j through others to l, each covering the next -/
def Cov (g : Abs) : Nat → List Nat → Nat → Prop
  | j, [], l => g.covers j l = true
  | j, i :: r, l => g.covers j i = true ∧ i < g.n ∧ Cov g i r l

theorem mem_loopsFrom {g : Abs} {i : Nat} : ∀ (k j : Nat) (w : List Nat), w ∈ g.loopsFrom i j (k + 1) ↔ ∃ r, w = j :: r ∧ r.length = k ∧ Cov g j r i
  | 0, j, w => by
    unfold Abs.loopsFrom
    constructor
    · intro h
      split at h
      · rename_i c
        rw [List.mem_singleton] at h
        exact ⟨[], h, rfl, c⟩
      · simp at h
    · rintro ⟨r, rfl, hr, hc⟩
      have : r = [] := List.length_eq_zero_iff.mp hr
      subst this
      have hc' : g.covers j i = true := hc
      rw [if_pos hc']
      simp
  | k + 1, j, w => by
    unfold Abs.loopsFrom
    rw [List.mem_flatMap]
    constructor
    · rintro ⟨l, hl, hw⟩
      rw [List.mem_filter, List.mem_range] at hl
      rw [List.mem_map] at hw
      obtain ⟨u, hu, rfl⟩ := hw
      obtain ⟨r, rfl, hr, hc⟩ := (mem_loopsFrom k l u).mp hu
      exact ⟨l :: r, rfl, by simp [hr], hl.2, hl.1, hc⟩
    · rintro ⟨r, rfl, hr, hc⟩
      cases r with
      | nil => simp at hr
      | cons l r =>
        refine ⟨l, ?_, ?_⟩
        · rw [List.mem_filter, List.mem_range]
          exact ⟨hc.2.1, hc.1⟩
        · rw [List.mem_map]
          exact ⟨l :: r, (mem_loopsFrom k l _).mpr ⟨r, rfl, by simpa using hr, hc.2.2⟩, rfl⟩

theorem covers_iff {g : Abs} {i j : Nat} : g.covers i j = true ↔ (g.point i ≤ j ∧ j + 1 ≤ g.point (i + 1)) ∨ (g.point (i + 1) ≤ j ∧ j + 1 ≤ g.point i) := by
  unfold Abs.covers
  rw [Bool.and_eq_true, decide_eq_true_iff, decide_eq_true_iff]
  omega

/-- what a walk does of whole numbers: it stretches its first piece over the one that it comes to -/
theorem stretch {g : Abs} : ∀ (r : List Nat) (j l : Nat), Cov g j r l →
    (0 < (g.along (j :: r)).1 ∧ (g.along (j :: r)).1 * j + (g.along (j :: r)).2 ≤ l ∧ (l : Int) + 1 ≤ (g.along (j :: r)).1 * (j + 1) + (g.along (j :: r)).2) ∨
    ((g.along (j :: r)).1 < 0 ∧ (g.along (j :: r)).1 * (j + 1) + (g.along (j :: r)).2 ≤ l ∧ (l : Int) + 1 ≤ (g.along (j :: r)).1 * j + (g.along (j :: r)).2)
  | [], j, l, h => by
    have h' : g.covers j l = true := h
    rw [covers_iff] at h'
    rw [along_cons]
    have e1 : (g.along []).1 = 1 := rfl
    have e2 : (g.along []).2 = 0 := rfl
    rw [e1, e2, slope_eq]
    dsimp only
    generalize (g.point j : Nat) = p at *
    generalize (g.point (j + 1) : Nat) = q at *
    rcases h' with h' | h'
    · left
      refine ⟨by omega, ?_, ?_⟩ <;> grind
    · right
      refine ⟨by omega, ?_, ?_⟩ <;> grind
  | i :: r, j, l, h => by
    obtain ⟨h1, h2, h3⟩ := h
    have ih := stretch r i l h3
    rw [covers_iff] at h1
    rw [along_cons g j]
    dsimp only
    generalize (g.along (i :: r)).1 = a at *
    generalize (g.along (i :: r)).2 = b at *
    rw [slope_eq]
    generalize (g.point j : Nat) = p at *
    generalize (g.point (j + 1) : Nat) = q at *
    have e1 : a * ((q : Int) - p) * j + (a * (p - ((q : Int) - p) * j) + b) = a * p + b := by grind
    have e2 : a * ((q : Int) - p) * (j + 1) + (a * (p - ((q : Int) - p) * j) + b) = a * q + b := by grind
    rw [e1, e2]
    have mono : ∀ x y : Int, 0 ≤ a → x ≤ y → a * x ≤ a * y := fun x y ha hxy => Int.mul_le_mul_of_nonneg_left hxy ha
    have anti : ∀ x y : Int, a ≤ 0 → x ≤ y → a * y ≤ a * x := fun x y ha hxy => Int.mul_le_mul_of_nonpos_left ha hxy
    rcases ih with ⟨a0, i1, i2⟩ | ⟨a0, i1, i2⟩
    · rcases h1 with h1 | h1
      · left
        have m1 := mono p i (by omega) (by omega)
        have m2 := mono (i + 1) q (by omega) (by omega)
        refine ⟨Int.mul_pos a0 (by omega), by omega, by omega⟩
      · right
        have m1 := mono q i (by omega) (by omega)
        have m2 := mono (i + 1) p (by omega) (by omega)
        refine ⟨Int.mul_neg_of_pos_of_neg a0 (by omega), by omega, by omega⟩
    · rcases h1 with h1 | h1
      · right
        have m1 := anti p i (by omega) (by omega)
        have m2 := anti (i + 1) q (by omega) (by omega)
        refine ⟨Int.mul_neg_of_neg_of_pos a0 (by omega), by omega, by omega⟩
      · left
        have m1 := anti q i (by omega) (by omega)
        have m2 := anti (i + 1) p (by omega) (by omega)
        refine ⟨Int.mul_pos_of_neg_of_neg a0 (by omega), by omega, by omega⟩

/-- a walk that comes back, not with factor 1: what it leaves as it is lies in its first piece -/
theorem fix_in {g : Abs} {j : Nat} {r : List Nat} (h : Cov g j r j) (ha : (g.along (j :: r)).1 ≠ 1) {B X : Int} (hB : 0 < B) (e : alN g B (j :: r) X = X) :
    (j : Int) * B ≤ X ∧ X ≤ (j + 1 : Int) * B := by
  rw [alN_eq] at e
  have s := stretch r j j h
  generalize (g.along (j :: r)).1 = a at *
  generalize (g.along (j :: r)).2 = b at *
  have mono : ∀ x y : Int, x ≤ y → x * B ≤ y * B := fun x y hxy => Int.mul_le_mul_of_nonneg_right hxy (by omega)
  rcases s with ⟨a0, s1, s2⟩ | ⟨a0, s1, s2⟩
  · have m1 := mono _ _ s1
    have m2 := mono _ _ s2
    have k1 : (a - 1) * ((j : Int) * B - X) ≤ 0 := by grind
    have k2 : (a - 1) * (X - (j + 1 : Int) * B) ≤ 0 := by grind
    have a1 : 0 < a - 1 := by omega
    constructor
    · false_or_by_contra
      rename_i c
      have := Int.mul_pos a1 (show 0 < (j : Int) * B - X by omega)
      omega
    · false_or_by_contra
      rename_i c
      have := Int.mul_pos a1 (show 0 < X - (j + 1 : Int) * B by omega)
      omega
  · have m1 := mono _ _ s1
    have m2 := mono _ _ s2
    have k1 : (1 - a) * ((j : Int) * B - X) ≤ 0 := by grind
    have k2 : (1 - a) * (X - (j + 1 : Int) * B) ≤ 0 := by grind
    have a1 : 0 < 1 - a := by omega
    constructor
    · false_or_by_contra
      rename_i c
      have := Int.mul_pos a1 (show 0 < (j : Int) * B - X by omega)
      omega
    · false_or_by_contra
      rename_i c
      have := Int.mul_pos a1 (show 0 < X - (j + 1 : Int) * B by omega)
      omega

end FL

namespace FL
open Su183

/-- a walk of pieces that comes back -/
def Cl (g : Abs) (w : List Nat) : Prop := ∃ j r, w = j :: r ∧ j < g.n ∧ Cov g j r j

theorem cov_snoc {g : Abs} {j m : Nat} (hj : j < g.n) (hm : g.covers j m = true) : ∀ (r : List Nat) (i : Nat), Cov g i r j → Cov g i (r ++ [j]) m
  | [], i, h => ⟨h, hj, hm⟩
  | l :: r, i, h => ⟨h.1, h.2.1, cov_snoc hj hm r l h.2.2⟩

theorem cov_lt {g : Abs} : ∀ (r : List Nat) (j l : Nat), Cov g j r l → ∀ i ∈ r, i < g.n
  | [], _, _, _, i, hi => by simp at hi
  | k :: r, j, l, h, i, hi => by
    rcases List.mem_cons.mp hi with rfl | hi
    · exact h.2.1
    · exact cov_lt r k l h.2.2 i hi

theorem Cl.lt {g : Abs} {w : List Nat} (h : Cl g w) : ∀ i ∈ w, i < g.n := by
  obtain ⟨j, r, rfl, hj, hc⟩ := h
  intro i hi
  rcases List.mem_cons.mp hi with rfl | hi
  · exact hj
  · exact cov_lt r j j hc i hi

theorem Cl.rot {g : Abs} {j : Nat} {r : List Nat} (h : Cl g (j :: r)) : Cl g (r ++ [j]) := by
  obtain ⟨j', r', e, hj, hc⟩ := h
  cases e
  cases r with
  | nil => exact ⟨j, [], rfl, hj, hc⟩
  | cons i r => exact ⟨i, r ++ [j], rfl, hc.2.1, cov_snoc hj hc.1 r i hc.2.2⟩

/-- a walk that comes back, not with factor 1, and what it leaves as it is -/
structure Fx (g : Abs) (B : Int) (w : List Nat) (X : Int) : Prop where
  cl : Cl g w
  ne : (g.along w).1 ≠ 1
  fix : alN g B w X = X

theorem Fx.head {g : Abs} (h : WF g) {B X : Int} (hB : 0 < B) {j : Nat} {r : List Nat} (f : Fx g B (j :: r) X) :
    ((j : Int) * B ≤ X ∧ X ≤ (j + 1 : Int) * B) ∧ Fn g B X = Lp g j B X ∧ Fx g B (r ++ [j]) (Fn g B X) := by
  obtain ⟨cl, ne, fix⟩ := f
  obtain ⟨j', r', e, hj, hc⟩ := id cl
  cases e
  have hi := fix_in hc ne hB fix
  have hF := Fn_piece h hj hB hi.1 hi.2
  refine ⟨hi, hF, cl.rot, ?_, ?_⟩
  · rw [along_append]
    rw [along_cons] at ne
    rw [along_cons g j []]
    have e1 : (g.along []).1 = 1 := rfl
    rw [e1]
    dsimp only at *
    rw [Int.mul_comm] at ne
    simpa using ne
  · rw [hF]
    have e : alN g B (j :: r) X = alN g B r (Lp g j B X) := rfl
    rw [e] at fix
    unfold alN at *
    rw [List.foldl_append, fix]
    rfl

def rt (w : List Nat) (t : Nat) : List Nat := w.drop t ++ w.take t

theorem rt_succ (w : List Nat) (t : Nat) (ht : t < w.length) : ∃ r, rt w t = w[t] :: r ∧ rt w (t + 1) = r ++ [w[t]] := by
  refine ⟨w.drop (t + 1) ++ w.take t, ?_, ?_⟩
  · unfold rt
    rw [List.drop_eq_getElem_cons ht]
    rfl
  · unfold rt
    rw [List.take_succ_eq_append_getElem ht, List.append_assoc]

theorem rt_zero (w : List Nat) : rt w 0 = w := by unfold rt; simp

theorem Fx.rot {g : Abs} (h : WF g) {B X : Int} (hB : 0 < B) {w : List Nat} (f : Fx g B w X) : ∀ t, t ≤ w.length → Fx g B (rt w t) (it g B X t)
  | 0, _ => by rw [rt_zero]; exact f
  | t + 1, ht => by
    have ih := f.rot h hB t (by omega)
    obtain ⟨r, e1, e2⟩ := rt_succ w t (by omega)
    rw [e1] at ih
    rw [e2]
    exact (ih.head h hB).2.2

theorem Fx.at {g : Abs} (h : WF g) {B X : Int} (hB : 0 < B) {w : List Nat} (f : Fx g B w X) (t : Nat) (ht : t < w.length) :
    ((w[t] : Int) * B ≤ it g B X t ∧ it g B X t ≤ (w[t] + 1 : Int) * B) ∧ it g B X (t + 1) = Lp g w[t] B (it g B X t) := by
  have ih := f.rot h hB t (by omega)
  obtain ⟨r, e1, e2⟩ := rt_succ w t ht
  rw [e1] at ih
  have := ih.head h hB
  exact ⟨this.1, this.2.1⟩

theorem Fx.take {g : Abs} (h : WF g) {B X : Int} (hB : 0 < B) {w : List Nat} (f : Fx g B w X) : ∀ t, t ≤ w.length → it g B X t = alN g B (w.take t) X
  | 0, _ => rfl
  | t + 1, ht => by
    rw [(f.at h hB t ht).2, f.take h hB t (by omega), List.take_succ_eq_append_getElem ht]
    unfold alN
    rw [List.foldl_append]
    rfl

theorem Fx.back {g : Abs} (h : WF g) {B X : Int} (hB : 0 < B) {w : List Nat} (f : Fx g B w X) : it g B X w.length = X := by
  rw [f.take h hB _ (Nat.le_refl _), List.take_length]
  exact f.fix

theorem Fx.inL {g : Abs} (h : WF g) {B X : Int} (hB : 0 < B) {w : List Nat} (f : Fx g B w X) : InL g B X := by
  obtain ⟨j, r, rfl, hj, hc⟩ := id f.cl
  have b := (f.head h hB).1
  constructor
  · have : 0 ≤ (j : Int) * B := Int.mul_nonneg (by omega) (by omega)
    omega
  · have : (j + 1 : Int) * B ≤ (g.n : Int) * B := Int.mul_le_mul_of_nonneg_right (by omega) (by omega)
    omega

/-- all along in its pieces -/
def goN (g : Abs) (B : Int) : Int → List Nat → Prop
  | _, [] => True
  | X, i :: w => (i : Int) * B ≤ X ∧ X ≤ (i + 1 : Int) * B ∧ goN g B (Fn g B X) w

theorem goN_of {g : Abs} {B : Int} : ∀ (w : List Nat) (X : Int), (∀ t (ht : t < w.length), (w[t] : Int) * B ≤ it g B X t ∧ it g B X t ≤ (w[t] + 1 : Int) * B) → goN g B X w
  | [], _, _ => trivial
  | i :: w, X, h => by
    refine ⟨(h 0 (by simp)).1, (h 0 (by simp)).2, goN_of w _ fun t ht => ?_⟩
    have := h (t + 1) (by simpa using ht)
    rw [it_succ'] at this
    exact this

theorem Fx.go {g : Abs} (h : WF g) {B X : Int} (hB : 0 < B) {w : List Nat} (f : Fx g B w X) : goN g B X w :=
  goN_of w X fun t ht => (f.at h hB t ht).1

theorem goes_red {g : Abs} {B : Nat} (hB : 0 < B) : ∀ (w : List Nat) (X : Int), g.goes (red X B) w = true ↔ goN g B X w
  | [], X => by
    unfold Abs.goes goN
    simp
  | i :: w, X => by
    unfold Abs.goes goN
    rw [Bool.and_eq_true, Bool.and_eq_true, put_red hB, goes_red hB w]
    have e1 : le (ofNat i) (red X B) = true ↔ (i : Int) * B ≤ X := by
      unfold le
      have : lt (red X B) (ofNat i) = decide (X * ((1 : Nat) : Int) < (i : Int) * (B : Int)) := by
        have q : ofNat i = red (i : Int) 1 := by
          unfold ofNat red
          simp
        rw [q, red_lt hB (by decide)]
      rw [this]
      simp
    have e2 : le (red X B) (ofNat (i + 1)) = true ↔ X ≤ (i + 1 : Int) * B := by
      unfold le
      have : lt (ofNat (i + 1)) (red X B) = decide (((i + 1 : Nat) : Int) * (B : Int) < X * ((1 : Nat) : Int)) := by
        have q : ofNat (i + 1) = red ((i + 1 : Nat) : Int) 1 := by
          unfold ofNat red
          simp
        rw [q, red_lt (by decide) hB]
      rw [this]
      simp
    rw [e1, e2]

/-- the places of a walk, told by the walk's pieces -/
def plN (g : Abs) (B : Int) : Int → List Nat → List Int
  | _, [] => []
  | X, i :: w => X :: plN g B (Lp g i B X) w

theorem plN_go {g : Abs} (h : WF g) {B : Int} (hB : 0 < B) : ∀ (w : List Nat) (X : Int), (∀ i ∈ w, i < g.n) → goN g B X w → plN g B X w = (List.range w.length).map (it g B X)
  | [], _, _, _ => rfl
  | i :: w, X, hl, hg => by
    obtain ⟨g1, g2, g3⟩ := hg
    have e := Fn_piece h (hl i List.mem_cons_self) hB g1 g2
    unfold plN
    rw [← e, plN_go h hB w _ (fun l hm => hl l (List.mem_cons_of_mem _ hm)) g3]
    rw [List.length_cons, List.range_succ_eq_map, List.map_cons, List.map_map]
    show X :: _ = X :: _
    congr 1
    apply List.map_congr_left
    intro t _
    exact (it_succ' g B X t).symm

theorem plN_length {g : Abs} {B : Int} : ∀ (w : List Nat) (X : Int), (plN g B X w).length = w.length
  | [], _ => rfl
  | i :: w, X => by
    unfold plN
    rw [List.length_cons, plN_length w, List.length_cons]

/-! ## Places that are no points -/
def NI (B X : Int) : Prop := X % B ≠ 0

theorem int_stays {g : Abs} {B X : Int} (h : X % B = 0) : Fn g B X % B = 0 := by
  obtain ⟨m, rfl⟩ := Int.dvd_of_emod_eq_zero h
  unfold Fn Lp
  generalize pc g B (B * m) = i
  apply Int.emod_eq_zero_of_dvd
  refine ⟨(g.point i : Int) + g.slope i * (m - i), ?_⟩
  grind

theorem int_stays_it {g : Abs} {B X : Int} (h : X % B = 0) : ∀ t, it g B X t % B = 0
  | 0 => h
  | t + 1 => int_stays (int_stays_it h t)

theorem NI.it {g : Abs} {B X : Int} {k : Nat} (hk : 0 < k) (e : it g B X k = X) (h : NI B X) (j : Nat) : NI B (it g B X j) := by
  intro c
  apply h
  have hk : j ≤ k * j := Nat.le_mul_of_pos_left j hk
  have q2 : k * j = j + (k * j - j) := by omega
  have := int_stays_it (g := g) c (k * j - j)
  rw [← it_add, ← q2, it_mul e] at this
  exact this

theorem pc_strict {g : Abs} (h : WF g) {B X : Int} (hB : 0 < B) (hX : InL g B X) (hn : NI B X) : (pc g B X : Int) * B < X ∧ X < (pc g B X + 1 : Int) * B := by
  have b := pc_bounds h hB hX
  have n1 : X ≠ (pc g B X : Int) * B := fun e => hn (by rw [e]; exact Int.mul_emod_left _ _)
  have n2 : X ≠ (pc g B X + 1 : Int) * B := fun e => hn (by rw [e]; exact Int.mul_emod_left _ _)
  omega

theorem pc_unique {B X : Int} {i j : Nat} (hB : 0 < B) (i1 : (i : Int) * B ≤ X) (i2 : X < (i + 1 : Int) * B) (j1 : (j : Int) * B ≤ X) (j2 : X < (j + 1 : Int) * B) : i = j := by
  have a : (i : Int) < j + 1 := Int.lt_of_mul_lt_mul_right (a := B) (by omega) (by omega)
  have b : (j : Int) < i + 1 := Int.lt_of_mul_lt_mul_right (a := B) (by omega) (by omega)
  omega

theorem pc_of {g : Abs} (h : WF g) {B X : Int} (hB : 0 < B) {j : Nat} (hj : j < g.n) (h1 : (j : Int) * B ≤ X) (h2 : X < (j + 1 : Int) * B) : pc g B X = j := by
  unfold pc
  have e : X / B = j := by
    have d1 : X / B * B ≤ X := Int.ediv_mul_le X (by omega)
    have d2 : X < (X / B + 1) * B := Int.lt_ediv_add_one_mul_self X hB
    have a : (j : Int) < X / B + 1 := Int.lt_of_mul_lt_mul_right (a := B) (by omega) (by omega)
    have b : X / B < j + 1 := Int.lt_of_mul_lt_mul_right (a := B) (by omega) (by omega)
    omega
  rw [e]
  omega

end FL

namespace FL
open Su183

/-! ## In which pieces it is, again and again -/
def itn (g : Abs) (B : Int) : Int → Nat → List Nat
  | _, 0 => []
  | X, k + 1 => pc g B X :: itn g B (Fn g B X) k

theorem itn_length (g : Abs) (B : Int) : ∀ (k : Nat) (X : Int), (itn g B X k).length = k
  | 0, _ => rfl
  | k + 1, X => by
    unfold itn
    rw [List.length_cons, itn_length g B k]

theorem itn_add (g : Abs) (B : Int) : ∀ (j k : Nat) (X : Int), itn g B X (j + k) = itn g B X j ++ itn g B (it g B X j) k
  | 0, k, X => by
    rw [Nat.zero_add]
    rfl
  | j + 1, k, X => by
    rw [show j + 1 + k = (j + k) + 1 by omega]
    show pc g B X :: itn g B (Fn g B X) (j + k) = _
    rw [itn_add g B j k, ← it_succ']
    rfl

theorem alN_itn (g : Abs) (B : Int) : ∀ (k : Nat) (X : Int), alN g B (itn g B X k) X = it g B X k
  | 0, _ => rfl
  | k + 1, X => by
    show alN g B (itn g B (Fn g B X) k) (Fn g B X) = _
    rw [alN_itn g B k, it_succ']

theorem rt_itn {g : Abs} {B X : Int} {k : Nat} (e : it g B X k = X) (t : Nat) (ht : t ≤ k) : rt (itn g B X k) t = itn g B (it g B X t) k := by
  have a : itn g B X k = itn g B X t ++ itn g B (it g B X t) (k - t) := by
    rw [← itn_add]
    congr 1
    omega
  have b : itn g B (it g B X t) k = itn g B (it g B X t) (k - t) ++ itn g B X t := by
    have : k = (k - t) + t := by omega
    conv => lhs; rw [this]
    rw [itn_add]
    congr 2
    rw [← it_add]
    rw [show t + (k - t) = k by omega, e]
  unfold rt
  rw [a, b]
  have l := itn_length g B t X
  congr 1
  · rw [List.drop_append, l]
    simp [List.drop_of_length_le, l]
  · rw [List.take_append, l]
    simp [List.take_of_length_le, l]

theorem covers_ni {g : Abs} (h : WF g) {B X : Int} (hB : 0 < B) (hX : InL g B X) (hn : NI B X) (hn2 : NI B (Fn g B X)) : g.covers (pc g B X) (pc g B (Fn g B X)) = true := by
  have b := pc_strict h hB hX hn
  have c := pc_strict h hB (Fn_in h hB hX) hn2
  rw [covers_iff]
  generalize hl : pc g B (Fn g B X) = l at *
  unfold Fn at *
  generalize pc g B X = j at *
  rw [Lp_mix] at *
  generalize (g.point j : Nat) = p at *
  generalize (g.point (j + 1) : Nat) = q at *
  generalize ht : X - (j : Int) * B = t at *
  have t0 : 0 < t := by omega
  have t1 : 0 < B - t := by
    have : (j + 1 : Int) * B = j * B + B := by grind
    omega
  generalize hu : B - t = u at *
  have eB : B = u + t := by omega
  obtain ⟨c1, c2⟩ := c
  by_cases hpq : p ≤ q
  · left
    -- p (u + t) <= p u + q t <= q (u + t)
    have m1 : (p : Int) * t ≤ q * t := Int.mul_le_mul_of_nonneg_right (by omega) (by omega)
    have m2 : (p : Int) * u ≤ q * u := Int.mul_le_mul_of_nonneg_right (by omega) (by omega)
    have k1 : (l : Int) * B < q * B := by
      have : (q : Int) * B = q * u + q * t := by rw [eB, Int.mul_add]
      omega
    have k2 : (p : Int) * B < (l + 1 : Int) * B := by
      have : (p : Int) * B = p * u + p * t := by rw [eB, Int.mul_add]
      omega
    have a1 : (l : Int) < q := Int.lt_of_mul_lt_mul_right k1 (by omega)
    have a2 : (p : Int) < l + 1 := Int.lt_of_mul_lt_mul_right k2 (by omega)
    omega
  · right
    have m1 : (q : Int) * t ≤ p * t := Int.mul_le_mul_of_nonneg_right (by omega) (by omega)
    have m2 : (q : Int) * u ≤ p * u := Int.mul_le_mul_of_nonneg_right (by omega) (by omega)
    have k1 : (l : Int) * B < p * B := by
      have : (p : Int) * B = p * u + p * t := by rw [eB, Int.mul_add]
      omega
    have k2 : (q : Int) * B < (l + 1 : Int) * B := by
      have : (q : Int) * B = q * u + q * t := by rw [eB, Int.mul_add]
      omega
    have a1 : (l : Int) < p := Int.lt_of_mul_lt_mul_right k1 (by omega)
    have a2 : (q : Int) < l + 1 := Int.lt_of_mul_lt_mul_right k2 (by omega)
    omega

theorem cov_itn {g : Abs} (h : WF g) {B : Int} (hB : 0 < B) : ∀ (k : Nat) (X : Int), InL g B X → (∀ t, t ≤ k + 1 → NI B (it g B X t)) → Cov g (pc g B X) (itn g B (Fn g B X) k) (pc g B (it g B X (k + 1)))
  | 0, X, hX, hn => covers_ni h hB hX (hn 0 (by omega)) (hn 1 (by omega))
  | k + 1, X, hX, hn => by
    refine ⟨covers_ni h hB hX (hn 0 (by omega)) (hn 1 (by omega)), pc_lt h _ _, ?_⟩
    have := cov_itn h hB k (Fn g B X) (Fn_in h hB hX) fun t ht => by
      rw [← it_succ']
      exact hn (t + 1) (by omega)
    rw [← it_succ'] at this
    exact this

/-- a place that is no point and comes back: its walk comes back -/
theorem cl_itn {g : Abs} (h : WF g) {B X : Int} (hB : 0 < B) (hX : InL g B X) (hn : NI B X) {k : Nat} (hk : 0 < k) (e : it g B X k = X) : Cl g (itn g B X k) := by
  obtain ⟨k, rfl⟩ : ∃ k', k = k' + 1 := ⟨k - 1, by omega⟩
  refine ⟨pc g B X, itn g B (Fn g B X) k, rfl, pc_lt h _ _, ?_⟩
  have := cov_itn h hB k X hX fun t _ => NI.it hk e hn t
  rwa [e] at this

theorem fx_itn {g : Abs} (h : WF g) {B X : Int} (hB : 0 < B) (hX : InL g B X) (hn : NI B X) {k : Nat} (hk : 0 < k) (e : it g B X k = X) (ne : (g.along (itn g B X k)).1 ≠ 1) : Fx g B (itn g B X k) X :=
  ⟨cl_itn h hB hX hn hk e, ne, by rw [alN_itn, e]⟩

/-- one walk, one place -/
theorem fix_one {g : Abs} {B B' Y Z : Int} {w : List Nat} (ne : (g.along w).1 ≠ 1) (e : alN g B w Y = Y) (e' : alN g B' w Z = Z) : Y * B' = Z * B := by
  rw [alN_eq] at e e'
  generalize (g.along w).1 = a at *
  generalize (g.along w).2 = b at *
  have k : (1 - a) * (Y * B') = (1 - a) * (Z * B) := by
    have e1 : (1 - a) * Y = b * B := by grind
    have e2 : (1 - a) * Z = b * B' := by grind
    rw [← Int.mul_assoc, e1, ← Int.mul_assoc, e2]
    grind
  exact Int.eq_of_mul_eq_mul_left (by omega) k

/-- what goes along a walk, no point, has that walk -/
theorem itn_of_go {g : Abs} (h : WF g) {B : Int} (hB : 0 < B) : ∀ (w : List Nat) (X : Int), (∀ i ∈ w, i < g.n) → goN g B X w → (∀ t, t < w.length → NI B (it g B X t)) → itn g B X w.length = w
  | [], _, _, _, _ => rfl
  | i :: w, X, hl, hg, hn => by
    obtain ⟨g1, g2, g3⟩ := hg
    have n2 : X ≠ (i + 1 : Int) * B := fun e => hn 0 (by simp) (by show X % B = 0; rw [e]; exact Int.mul_emod_left _ _)
    have e : pc g B X = i := pc_of h hB (hl i List.mem_cons_self) g1 (by omega)
    show pc g B X :: itn g B (Fn g B X) w.length = i :: w
    rw [e, itn_of_go h hB w _ (fun l hm => hl l (List.mem_cons_of_mem _ hm)) g3 fun t ht => by
      rw [← it_succ']
      exact hn (t + 1) (by simpa using ht)]

theorem Fx.itn {g : Abs} (h : WF g) {B X : Int} (hB : 0 < B) {w : List Nat} (f : Fx g B w X) (hn : NI B X) : itn g B X w.length = w := by
  have hk : 0 < w.length := by
    obtain ⟨j, r, rfl, _⟩ := f.cl
    simp
  exact itn_of_go h hB w X f.cl.lt (f.go h hB) fun t _ => NI.it hk (f.back h hB) hn t

/-! ## Pieces that are put onto one piece each -/
def un (g : Abs) (j : Nat) : Prop := g.slope j = 1 ∨ g.slope j = -1
def nx (g : Abs) (j : Nat) : Nat := min (g.point j) (g.point (j + 1))
def nxi (g : Abs) (j : Nat) : Nat → Nat
  | 0 => j
  | t + 1 => nx g (nxi g j t)
def sg (g : Abs) (j : Nat) : Nat → Int
  | 0 => 1
  | t + 1 => sg g j t * g.slope (nxi g j t)
def pth (g : Abs) (j : Nat) (k : Nat) : List Nat := (List.range k).map (nxi g j)

theorem nxi_add (g : Abs) (j s : Nat) : ∀ t, nxi g j (s + t) = nxi g (nxi g j s) t
  | 0 => rfl
  | t + 1 => by
    show nx g (nxi g j (s + t)) = _
    rw [nxi_add g j s t]
    rfl

theorem sg_add (g : Abs) (j s : Nat) : ∀ t, sg g j (s + t) = sg g j s * sg g (nxi g j s) t
  | 0 => by
    show sg g j s = sg g j s * 1
    simp
  | t + 1 => by
    show sg g j (s + t) * g.slope (nxi g j (s + t)) = sg g j s * (sg g (nxi g j s) t * g.slope (nxi g (nxi g j s) t))
    rw [sg_add g j s t, nxi_add, Int.mul_assoc]

theorem un_sq {g : Abs} {j : Nat} (h : un g j) : g.slope j * g.slope j = 1 := by
  rcases h with h | h <;> rw [h] <;> rfl

theorem nx_lt {g : Abs} (h : WF g) {j : Nat} (hu : un g j) : nx g j < g.n := by
  have a := h.point_le j
  have b := h.point_le (j + 1)
  unfold nx
  unfold un at hu
  rw [slope_eq] at hu
  omega

theorem covers_un {g : Abs} {j i : Nat} (hu : un g j) : g.covers j i = true ↔ i = nx g j := by
  rw [covers_iff]
  unfold nx
  unfold un at hu
  rw [slope_eq] at hu
  omega

theorem sg_unit {g : Abs} {j : Nat} : ∀ t, (∀ s, s < t → un g (nxi g j s)) → sg g j t = 1 ∨ sg g j t = -1
  | 0, _ => .inl rfl
  | t + 1, h => by
    have a := sg_unit t fun s hs => h s (by omega)
    have b := h t (by omega)
    show sg g j t * g.slope (nxi g j t) = 1 ∨ sg g j t * g.slope (nxi g j t) = -1
    rcases a with a | a <;> rcases b with b | b <;> rw [a, b] <;> decide

/-- how a place within a piece goes along such pieces -/
theorem unit_orbit {g : Abs} (h : WF g) {j : Nat} (hj : j < g.n) {B c : Int} (hB : 0 < B) (c0 : 0 ≤ c) (c1 : c ≤ B) : ∀ t, (∀ s, s < t → un g (nxi g j s)) →
    nxi g j t < g.n ∧ it g B (j * B + c) t = nxi g j t * B + (if sg g j t = 1 then c else B - c)
  | 0, _ => ⟨hj, rfl⟩
  | t + 1, hu => by
    obtain ⟨h1, h2⟩ := unit_orbit h hj hB c0 c1 t fun s hs => hu s (by omega)
    have u := hu t (by omega)
    have s1 := sg_unit (g := g) (j := j) t fun s hs => hu s (by omega)
    refine ⟨nx_lt h u, ?_⟩
    show Fn g B (it g B (j * B + c) t) = nx g (nxi g j t) * B + (if sg g j t * g.slope (nxi g j t) = 1 then c else B - c)
    rw [h2]
    generalize nxi g j t = i at *
    generalize sg g j t = s at *
    generalize hd : (if s = 1 then c else B - c) = d
    have d0 : 0 ≤ d ∧ d ≤ B := by
      subst hd
      split <;> omega
    have e := Fn_piece h h1 (B := B) (X := i * B + d) hB (by omega) (by rw [Int.add_mul, Int.one_mul]; omega)
    rw [e, Lp_mix]
    have q : (i : Int) * B + d - i * B = d := by omega
    rw [q]
    unfold nx
    rw [slope_eq]
    unfold un at u
    rw [slope_eq] at u
    generalize (g.point i : Nat) = p at *
    generalize (g.point (i + 1) : Nat) = r at *
    rcases u with u | u
    · rw [u]
      have er : (r : Int) = p + 1 := by omega
      have em : min p r = p := by omega
      rw [em, er, Int.mul_one, hd]
      grind
    · rw [u]
      have er : (p : Int) = r + 1 := by omega
      have em : min p r = r := by omega
      rw [em, er]
      have hd2 : (if s * -1 = 1 then c else B - c) = B - d := by
        subst hd
        rcases s1 with rfl | rfl
        · simp
        · simp
          omega
      rw [hd2]
      grind

theorem unit_of_mul {a b : Int} (h : a * b = 1 ∨ a * b = -1) : (a = 1 ∨ a = -1) ∧ (b = 1 ∨ b = -1) := by
  have k : (a * b).natAbs = 1 := by omega
  rw [Int.natAbs_mul] at k
  have a1 := Nat.eq_one_of_mul_eq_one_right k
  have b1 := Nat.eq_one_of_mul_eq_one_left k
  omega

/-- a walk with factor 1 or -1 is told by its first piece -/
theorem unit_walk {g : Abs} : ∀ (r : List Nat) (j l : Nat), Cov g j r l → ((g.along (j :: r)).1 = 1 ∨ (g.along (j :: r)).1 = -1) →
    j :: r = pth g j (r.length + 1) ∧ l = nxi g j (r.length + 1) ∧ (∀ t, t < r.length + 1 → un g (nxi g j t)) ∧ (g.along (j :: r)).1 = sg g j (r.length + 1)
  | [], j, l, hc, ha => by
    rw [along_cons] at ha ⊢
    have e1 : (g.along []).1 = 1 := rfl
    rw [e1] at ha ⊢
    dsimp only at ha ⊢
    rw [Int.one_mul] at ha ⊢
    refine ⟨rfl, (covers_un ha).mp hc, fun t ht => ?_, ?_⟩
    · have : t = 0 := by simpa using ht
      subst this
      exact ha
    · show g.slope j = 1 * g.slope j
      rw [Int.one_mul]
  | i :: r, j, l, hc, ha => by
    rw [along_cons] at ha
    rw [along_cons g j]
    dsimp only at ha ⊢
    obtain ⟨ha1, ha2⟩ := unit_of_mul ha
    obtain ⟨c1, c2, c3⟩ := hc
    obtain ⟨i1, i2, i3, i4⟩ := unit_walk r i l c3 ha1
    have ei : i = nx g j := (covers_un ha2).mp c1
    have sh : ∀ t, nxi g i t = nxi g j (t + 1) := fun t => by
      rw [Nat.add_comm, nxi_add, ei]
      rfl
    refine ⟨?_, ?_, fun t ht => ?_, ?_⟩
    · have e : pth g j ((i :: r).length + 1) = j :: (List.range (r.length + 1)).map (fun t => nxi g j (t + 1)) := by
        unfold pth
        rw [List.length_cons, List.range_succ_eq_map (n := r.length + 1), List.map_cons, List.map_map]
        rfl
      rw [e, i1]
      unfold pth
      congr 1
      apply List.map_congr_left
      intro t _
      exact sh t
    · rw [i2, sh]
      rfl
    · cases t with
      | zero => exact ha2
      | succ t =>
        rw [← sh]
        exact i3 t (by simpa using ht)
    · rw [i4]
      have q : sg g j ((i :: r).length + 1) = sg g j 1 * sg g (nxi g j 1) (r.length + 1) := by
        rw [← sg_add, List.length_cons]
        congr 1
        omega
      rw [q]
      have e : nxi g j 1 = i := by rw [ei]; rfl
      rw [e]
      have e2 : sg g j 1 = g.slope j := by
        show 1 * g.slope j = _
        rw [Int.one_mul]
      rw [e2, Int.mul_comm]

end FL

namespace FL
open Su183

theorem below_length {l : List Nat} {n : Nat} (h : l.Nodup) (h2 : ∀ x ∈ l, x < n) : l.length ≤ n := by
  have : l ⊆ List.range n := fun x hx => List.mem_range.mpr (h2 x hx)
  have := List.Nodup.length_le_of_subset h this
  simpa using this

theorem nodup_map_range {f : Nat → α} {d : Nat} (h : ∀ a b, a < b → b < d → f a ≠ f b) : ((List.range d).map f).Nodup := by
  unfold List.Nodup
  rw [List.pairwise_map]
  apply List.Pairwise.imp_of_mem (R := (· < ·)) ?_ List.pairwise_lt_range
  intro a b ha hb hab
  exact h a b hab (List.mem_range.mp hb)

/-- the pieces' first return, by units -/
structure FR (g : Abs) (j d : Nat) : Prop where
  pos : 0 < d
  un : ∀ t, t < d → un g (nxi g j t)
  ret : nxi g j d = j
  first : ∀ t, 0 < t → t < d → nxi g j t ≠ j

theorem FR.shift {g : Abs} {j d : Nat} (f : FR g j d) (t : Nat) : nxi g j (d + t) = nxi g j t := by rw [nxi_add, f.ret]

theorem FR.all {g : Abs} {j d : Nat} (f : FR g j d) (t : Nat) : FL.un g (nxi g j t) := by
  induction t using Nat.strongRecOn with
  | _ t ih =>
    by_cases c : t < d
    · exact f.un t c
    · have := f.pos
      have e : t = d + (t - d) := by omega
      rw [e, f.shift]
      exact ih (t - d) (by omega)

theorem FR.sgd {g : Abs} {j d : Nat} (f : FR g j d) (t : Nat) : sg g j (d + t) = sg g j d * sg g j t := by rw [sg_add, f.ret]

theorem FR.unit {g : Abs} {j d : Nat} (f : FR g j d) : sg g j d = 1 ∨ sg g j d = -1 := sg_unit d f.un

theorem FR.two {g : Abs} {j d : Nat} (f : FR g j d) : sg g j (2 * d) = 1 := by
  rw [Nat.two_mul, f.sgd]
  rcases f.unit with h | h <;> rw [h] <;> rfl

theorem FR.ret2 {g : Abs} {j d : Nat} (f : FR g j d) : nxi g j (2 * d) = j := by
  rw [Nat.two_mul, f.shift, f.ret]

theorem FR.only {g : Abs} {j d : Nat} (f : FR g j d) {t : Nat} (t0 : 0 < t) (t1 : t < 2 * d) (e : nxi g j t = j) : t = d := by
  by_cases c : t < d
  · exact absurd e (f.first t t0 c)
  · false_or_by_contra
    rename_i ne
    have q : t = d + (t - d) := by omega
    rw [q, f.shift] at e
    exact f.first (t - d) (by omega) (by omega) e

theorem FR.le {g : Abs} (h : WF g) {j d : Nat} (hj : j < g.n) (f : FR g j d) : d ≤ g.n := by
  have hn : (pth g j d).Nodup := by
    apply nodup_map_range
    intro a b hab hb e
    have k : nxi g j (a + (d - b)) = nxi g j (b + (d - b)) := by rw [nxi_add, nxi_add, e]
    rw [show b + (d - b) = d by omega, f.ret] at k
    exact f.first _ (by omega) (by omega) k
  have hl : ∀ x ∈ pth g j d, x < g.n := by
    intro x hx
    unfold pth at hx
    rw [List.mem_map] at hx
    obtain ⟨t, ht, rfl⟩ := hx
    exact (unit_orbit h hj (B := 1) (c := 0) (by decide) (by decide) (by decide) t fun s _ => f.all s).1
  have := below_length hn hl
  unfold pth at this
  simpa using this

theorem FR.exists {g : Abs} {j : Nat} : ∀ k, 0 < k → (∀ t, t < k → FL.un g (nxi g j t)) → nxi g j k = j → ∃ d, d ≤ k ∧ FR g j d := by
  intro k
  induction k using Nat.strongRecOn with
  | _ k ih =>
    intro k0 hu e
    by_cases c : ∃ t, 0 < t ∧ t < k ∧ nxi g j t = j
    · obtain ⟨t, t0, t1, te⟩ := c
      obtain ⟨d, hd, f⟩ := ih t t1 t0 (fun s hs => hu s (by omega)) te
      exact ⟨d, by omega, f⟩
    · exact ⟨k, Nat.le_refl _, k0, hu, e, fun t t0 t1 te => c ⟨t, t0, t1, te⟩⟩

/-- places within a piece that comes back by units: behind how many steps -/
theorem FR.orbit {g : Abs} (h : WF g) {j d : Nat} (hj : j < g.n) (f : FR g j d) {B c : Int} (hB : 0 < B) (c0 : 0 < c) (c1 : c < B) (t : Nat) :
    it g B (j * B + c) t = j * B + c ↔ nxi g j t = j ∧ (sg g j t = 1 ∨ 2 * c = B) := by
  obtain ⟨o1, o2⟩ := unit_orbit h hj (B := B) (c := c) hB (by omega) (by omega) t fun s _ => f.all s
  rw [o2]
  have su := sg_unit (g := g) (j := j) t fun s _ => f.all s
  generalize sg g j t = s at *
  generalize nxi g j t = i at *
  generalize hd : (if s = 1 then c else B - c) = e
  have e0 : 0 < e ∧ e < B := by
    subst hd
    split <;> omega
  constructor
  · intro q
    have ij : i = j := by
      apply pc_unique (B := B) (X := i * B + e) hB
      · omega
      · rw [Int.add_mul, Int.one_mul]; omega
      · omega
      · rw [Int.add_mul, Int.one_mul]; omega
    subst ij
    refine ⟨rfl, ?_⟩
    have : e = c := by omega
    subst hd
    by_cases k : s = 1
    · exact .inl k
    · rw [if_neg k] at this
      right
      omega
  · rintro ⟨rfl, q⟩
    subst hd
    rcases q with q | q
    · rw [if_pos q]
    · split <;> omega

theorem FR.bk {g : Abs} (h : WF g) {j d : Nat} (hj : j < g.n) (f : FR g j d) {B c : Int} (hB : 0 < B) (c0 : 0 < c) (c1 : c < B) {k : Nat} (b : Bk g B (j * B + c) k) :
    (k = d ∧ (sg g j d = 1 ∨ 2 * c = B)) ∨ (k = 2 * d ∧ sg g j d ≠ 1) := by
  obtain ⟨k0, k1, k2⟩ := b
  have two : it g B (j * B + c) (2 * d) = j * B + c := (f.orbit h hj hB c0 c1 _).mpr ⟨f.ret2, .inl f.two⟩
  have hk : k ≤ 2 * d := by
    false_or_by_contra
    have := f.pos
    exact k2 (2 * d) (by omega) (by omega) two
  have q := (f.orbit h hj hB c0 c1 k).mp k1
  by_cases c : k = 2 * d
  · right
    refine ⟨c, fun e => ?_⟩
    have := f.pos
    exact k2 d this (by omega) ((f.orbit h hj hB c0 c1 d).mpr ⟨f.ret, .inl e⟩)
  · left
    have e : k = d := f.only k0 (by omega) q.1
    subst e
    exact ⟨rfl, q.2⟩

theorem FR.bk1 {g : Abs} (h : WF g) {j d : Nat} (hj : j < g.n) (f : FR g j d) {B c : Int} (hB : 0 < B) (c0 : 0 < c) (c1 : c < B) (s : sg g j d = 1) : Bk g B (j * B + c) d := by
  refine ⟨f.pos, (f.orbit h hj hB c0 c1 d).mpr ⟨f.ret, .inl s⟩, fun t t0 t1 e => ?_⟩
  exact f.first t t0 t1 ((f.orbit h hj hB c0 c1 t).mp e).1

theorem FR.bk2 {g : Abs} (h : WF g) {j d : Nat} (hj : j < g.n) (f : FR g j d) {B c : Int} (hB : 0 < B) (c0 : 0 < c) (c1 : c < B) (s : sg g j d ≠ 1) (cc : 2 * c ≠ B) : Bk g B (j * B + c) (2 * d) := by
  have := f.pos
  refine ⟨by omega, (f.orbit h hj hB c0 c1 _).mpr ⟨f.ret2, .inl f.two⟩, fun t t0 t1 e => ?_⟩
  have q := (f.orbit h hj hB c0 c1 t).mp e
  have e2 := f.only t0 t1 q.1
  subst e2
  rcases q.2 with q | q
  · exact s q
  · exact cc q

/-! ## The steps of all of a piece: the program's loop -/
def stepsGo (g : Abs) (piece : Nat) : Nat → Nat → Nat → Int → Nat
  | 0, _, _, _ => 0
  | f + 1, step, here, sign => if g.slope here ≠ 1 ∧ g.slope here ≠ -1 then 0 else
    if nx g here = piece then (if sign * g.slope here = 1 then step else 2 * step) else stepsGo g piece f (step + 1) (nx g here) (sign * g.slope here)
def stepsOf (g : Abs) (j : Nat) : Nat := stepsGo g j g.n 1 j 1
def stepsBy (g : Abs) (j d : Nat) : Nat := if sg g j d = 1 then d else 2 * d

theorem stepsGo_some {g : Abs} {j : Nat} : ∀ (f s : Nat) {m : Nat}, (∀ t, t < s → un g (nxi g j t)) → (∀ t, 0 < t → t ≤ s → nxi g j t ≠ j) → stepsGo g j f (s + 1) (nxi g j s) (sg g j s) = m → 0 < m → ∃ d, FR g j d ∧ m = stepsBy g j d
  | 0, s, m, _, _, e, m0 => by
    have : 0 = m := e
    omega
  | f + 1, s, m, hu, hf, e, m0 => by
    unfold stepsGo at e
    by_cases c1 : g.slope (nxi g j s) ≠ 1 ∧ g.slope (nxi g j s) ≠ -1
    · rw [if_pos c1] at e
      omega
    · rw [if_neg c1] at e
      have u : un g (nxi g j s) := by unfold un; omega
      have hu' : ∀ t, t < s + 1 → un g (nxi g j t) := fun t ht => by
        by_cases q : t = s
        · rw [q]; exact u
        · exact hu t (by omega)
      by_cases c2 : nx g (nxi g j s) = j
      · rw [if_pos c2] at e
        refine ⟨s + 1, ⟨by omega, hu', c2, fun t t0 t1 => hf t t0 (by omega)⟩, ?_⟩
        rw [← e]
        rfl
      · rw [if_neg c2] at e
        refine stepsGo_some f (s + 1) hu' (fun t t0 t1 => ?_) e m0
        by_cases q : t = s + 1
        · rw [q]; exact c2
        · exact hf t t0 (by omega)

theorem stepsGo_is {g : Abs} {j d : Nat} (fr : FR g j d) : ∀ (f s : Nat), s < d → d ≤ s + f → stepsGo g j f (s + 1) (nxi g j s) (sg g j s) = stepsBy g j d
  | 0, s, h1, h2 => by omega
  | f + 1, s, h1, h2 => by
    unfold stepsGo
    have u := fr.un s h1
    have c1 : ¬ (g.slope (nxi g j s) ≠ 1 ∧ g.slope (nxi g j s) ≠ -1) := by
      unfold un at u
      omega
    rw [if_neg c1]
    by_cases c2 : nx g (nxi g j s) = j
    · rw [if_pos c2]
      have e : s + 1 = d := by
        false_or_by_contra
        exact fr.first (s + 1) (by omega) (by omega) c2
      subst e
      rfl
    · rw [if_neg c2]
      have ne : s + 1 ≠ d := fun e => c2 (by
        have := fr.ret
        rw [← e] at this
        exact this)
      exact stepsGo_is fr f (s + 1) (by omega) (by omega)

theorem stepsOf_iff {g : Abs} (h : WF g) {j : Nat} (hj : j < g.n) {m : Nat} (m0 : 0 < m) : stepsOf g j = m ↔ ∃ d, FR g j d ∧ m = stepsBy g j d := by
  constructor
  · intro e
    exact stepsGo_some g.n 0 (fun t ht => absurd ht (Nat.not_lt_zero _)) (fun t t0 t1 => by omega) e m0
  · rintro ⟨d, fr, rfl⟩
    exact stepsGo_is fr g.n 0 fr.pos (by have := fr.le h hj; omega)

def endl (g : Abs) (k : Nat) : Bool := (List.range g.n).any fun j => stepsOf g j == k

theorem endl_iff {g : Abs} (h : WF g) {k : Nat} (k0 : 0 < k) : endl g k = true ↔ ∃ j d, j < g.n ∧ FR g j d ∧ k = stepsBy g j d := by
  unfold endl
  rw [List.any_eq_true]
  constructor
  · rintro ⟨j, hj, e⟩
    rw [List.mem_range] at hj
    rw [beq_iff_eq, stepsOf_iff h hj k0] at e
    obtain ⟨d, h1, h2⟩ := e
    exact ⟨j, d, hj, h1, h2⟩
  · rintro ⟨j, d, hj, h1, h2⟩
    exact ⟨j, List.mem_range.mpr hj, beq_iff_eq.mpr ((stepsOf_iff h hj k0).mpr ⟨d, h1, h2⟩)⟩

/-- by units, with sign 1, something of a piece back in k steps: endlessly many -/
theorem endl_of {g : Abs} (h : WF g) {j : Nat} (hj : j < g.n) {k : Nat} (k0 : 0 < k) (hu : ∀ t, t < k → un g (nxi g j t)) (hr : nxi g j k = j) (hs : sg g j k = 1)
    {B c : Int} (hB : 0 < B) (c0 : 0 < c) (c1 : c < B) (b : Bk g B (j * B + c) k) : endl g k = true := by
  obtain ⟨d, hd, f⟩ := FR.exists k k0 hu hr
  rw [endl_iff h k0]
  refine ⟨j, d, hj, f, ?_⟩
  unfold stepsBy
  rcases f.bk h hj hB c0 c1 b with ⟨e, q⟩ | ⟨e, q⟩
  · subst e
    rw [if_pos hs]
  · rw [if_neg q]
    exact e

theorem cov_pth {g : Abs} (h : WF g) : ∀ (k j : Nat), j < g.n → (∀ t, t < k + 1 → un g (nxi g j t)) → Cov g j ((pth g j (k + 1)).drop 1) (nxi g j (k + 1))
  | 0, j, hj, hu => (covers_un (hu 0 (by omega))).mpr rfl
  | k + 1, j, hj, hu => by
    have u := hu 0 (by omega)
    have sh : ∀ t, nxi g (nx g j) t = nxi g j (t + 1) := fun t => by
      rw [Nat.add_comm, nxi_add]
      rfl
    have e : (pth g j (k + 1 + 1)).drop 1 = nx g j :: (pth g (nx g j) (k + 1)).drop 1 := by
      have a : ∀ (i m : Nat), pth g i (m + 1) = i :: (List.range m).map (fun t => nxi g i (t + 1)) := fun i m => by
        unfold pth
        rw [List.range_succ_eq_map, List.map_cons, List.map_map]
        rfl
      rw [a j (k + 1), a (nx g j) k, List.range_succ_eq_map, List.map_cons, List.map_map]
      show nx g j :: _ = nx g j :: _
      congr 1
      show _ = (List.range k).map (fun t => nxi g (nx g j) (t + 1))
      apply List.map_congr_left
      intro t _
      show nxi g j (t + 1 + 1) = nxi g (nx g j) (t + 1)
      exact (sh (t + 1)).symm
    rw [e]
    refine ⟨(covers_un u).mpr rfl, nx_lt h u, ?_⟩
    have ih := cov_pth h k (nx g j) (nx_lt h u) fun t ht => by
      rw [sh]
      exact hu (t + 1) (by omega)
    rwa [sh] at ih

theorem pth_cons (g : Abs) (j m : Nat) : pth g j (m + 1) = j :: (pth g j (m + 1)).drop 1 := by
  unfold pth
  rw [List.range_succ_eq_map, List.map_cons]
  rfl

/-- the document's endless is the program's -/
theorem endless_iff {g : Abs} (h : WF g) {k : Nat} (k0 : 0 < k) : g.endless k = true ↔ endl g k = true := by
  unfold Abs.endless
  rw [List.any_eq_true]
  constructor
  · rintro ⟨i, hi, e⟩
    rw [List.mem_range] at hi
    rw [List.any_eq_true] at e
    obtain ⟨w, hw, e⟩ := e
    rw [Bool.and_eq_true, beq_iff_eq] at e
    obtain ⟨e1, e2⟩ := e
    obtain ⟨m, rfl⟩ : ∃ m, k = m + 1 := ⟨k - 1, by omega⟩
    obtain ⟨r, rfl, hr, hc⟩ := (mem_loopsFrom m i w).mp hw
    obtain ⟨_, u2, u3, u4⟩ := unit_walk r i i hc (.inl (by rw [e1]))
    rw [hr] at u2 u3 u4
    rw [e1] at u4
    have b := (back_red (g := g) (B := 3) (by decide)).mp e2
    have e3 : (3 * (i : Int) + 1) = i * ((3 : Nat) : Int) + 1 := by omega
    rw [e3] at b
    exact endl_of h hi k0 u3 u2.symm u4.symm (by decide) (by decide) (by decide) b
  · intro e
    obtain ⟨j, d, hj, f, ek⟩ := (endl_iff h k0).mp e
    refine ⟨j, List.mem_range.mpr hj, ?_⟩
    rw [List.any_eq_true]
    have hs : sg g j k = 1 := by
      rw [ek]
      unfold stepsBy
      split
      · assumption
      · exact f.two
    have hr : nxi g j k = j := by
      rw [ek]
      unfold stepsBy
      split
      · exact f.ret
      · exact f.ret2
    have b : Bk g 3 (j * 3 + 1) k := by
      rw [ek]
      unfold stepsBy
      split
      · rename_i s
        exact f.bk1 h hj (by decide) (by decide) (by decide) s
      · rename_i s
        exact f.bk2 h hj (by decide) (by decide) (by decide) s (by decide)
    obtain ⟨m, rfl⟩ : ∃ m, k = m + 1 := ⟨k - 1, by omega⟩
    have hc := cov_pth h m j hj fun t _ => f.all t
    rw [hr] at hc
    refine ⟨pth g j (m + 1), (mem_loopsFrom m j _).mpr ⟨_, pth_cons g j m, by simp [pth], hc⟩, ?_⟩
    have ha : (g.along (pth g j (m + 1))).1 = 1 ∨ (g.along (pth g j (m + 1))).1 = -1 := by
      -- by its signs
      have key : ∀ t, (g.along (pth g j t)).1 = sg g j t := fun t => by
        induction t with
        | zero => rfl
        | succ t ih =>
          have : pth g j (t + 1) = pth g j t ++ [nxi g j t] := by
            unfold pth
            rw [List.range_succ, List.map_append]
            rfl
          rw [this, along_append]
          have q : (g.along [nxi g j t]).1 = g.slope (nxi g j t) := by
            rw [along_cons]
            show (1 : Int) * _ = _
            rw [Int.one_mul]
          show (g.along [nxi g j t]).1 * (g.along (pth g j t)).1 = sg g j t * g.slope (nxi g j t)
          rw [q, ih, Int.mul_comm]
      rw [key, hs]
      exact .inl rfl
    have q := unit_walk _ j j hc (by rwa [← pth_cons])
    rw [← pth_cons] at q
    have ql : ((pth g j (m + 1)).drop 1).length + 1 = m + 1 := by simp [pth]
    rw [ql] at q
    obtain ⟨_, _, _, q4⟩ := q
    rw [hs] at q4
    rw [Bool.and_eq_true]
    constructor
    · have al : alN g 3 (pth g j (m + 1)) (j * 3 + 1) = j * 3 + 1 := by
        have e1 : itn g 3 (j * 3 + 1) (m + 1) = pth g j (m + 1) := by
          -- its pieces
          have key : ∀ t, itn g 3 (j * 3 + 1) t = pth g j t := fun t => by
            induction t with
            | zero => rfl
            | succ t ih =>
              have e2 : pth g j (t + 1) = pth g j t ++ [nxi g j t] := by
                unfold pth
                rw [List.range_succ, List.map_append]
                rfl
              rw [itn_add g 3 t 1, ih, e2]
              congr 1
              show [pc g 3 (it g 3 (j * 3 + 1) t)] = _
              obtain ⟨o1, o2⟩ := unit_orbit h hj (B := 3) (c := 1) (by decide) (by decide) (by decide) t fun s _ => f.all s
              rw [o2]
              congr 1
              apply pc_of h (by decide) o1
              · split <;> omega
              · split <;> omega
          exact key _
        rw [← e1, alN_itn, b.2.1]
      rw [alN_eq, q4] at al
      rw [beq_iff_eq]
      refine Prod.ext q4 ?_
      dsimp only
      omega
    · have e3 : (3 * (j : Int) + 1) = j * ((3 : Nat) : Int) + 1 := by omega
      rw [e3, back_red (by decide)]
      exact b

end FL

namespace FL
open Su183

/-! ## The order of walks -/
def lexN : List Nat → List Nat → Bool
  | [], [] => false
  | [], _ :: _ => true
  | _ :: _, [] => false
  | x :: xs, y :: ys => if x = y then lexN xs ys else decide (x < y)

theorem lexN_irrefl : ∀ (a : List Nat), lexN a a = false
  | [] => rfl
  | x :: a => by
    unfold lexN
    rw [if_pos rfl]
    exact lexN_irrefl a

theorem lexN_trans : ∀ (a b c : List Nat), lexN a b = true → lexN b c = true → lexN a c = true
  | [], [], c, h, _ => by simp [lexN] at h
  | [], y :: b, [], _, h => by simp [lexN] at h
  | [], y :: b, z :: c, _, _ => rfl
  | x :: a, [], c, h, _ => by simp [lexN] at h
  | x :: a, y :: b, [], _, h => by simp [lexN] at h
  | x :: a, y :: b, z :: c, h1, h2 => by
    unfold lexN at *
    by_cases e1 : x = y
    · subst e1
      rw [if_pos rfl] at h1
      by_cases e2 : x = z
      · subst e2
        rw [if_pos rfl] at h2 ⊢
        exact lexN_trans a b c h1 h2
      · rw [if_neg e2] at h2 ⊢
        exact h2
    · rw [if_neg e1] at h1
      by_cases e2 : y = z
      · subst e2
        rw [if_neg e1]
        exact h1
      · rw [if_neg e2] at h2
        rw [decide_eq_true_iff] at h1 h2
        rw [if_neg (by omega), decide_eq_true_iff]
        omega

theorem lexN_tri : ∀ (a b : List Nat), lexN a b = false → lexN b a = false → a = b
  | [], [], _, _ => rfl
  | [], y :: b, h, _ => by simp [lexN] at h
  | x :: a, [], _, h => by simp [lexN] at h
  | x :: a, y :: b, h1, h2 => by
    unfold lexN at *
    by_cases e : x = y
    · subst e
      rw [if_pos rfl] at h1 h2
      rw [lexN_tri a b h1 h2]
    · rw [if_neg e] at h1
      rw [if_neg (fun q => e q.symm)] at h2
      rw [decide_eq_false_iff_not] at h1 h2
      omega

theorem lexN_head {x y : Nat} {a b : List Nat} (h : lexN (x :: a) (y :: b) = true) : x ≤ y := by
  unfold lexN at h
  by_cases e : x = y
  · omega
  · rw [if_neg e, decide_eq_true_iff] at h
    omega

theorem lexN_least (f : Nat → List Nat) : ∀ k, 0 < k → ∃ m, m < k ∧ ∀ j, j < k → lexN (f j) (f m) = false
  | 0, h => absurd h (Nat.lt_irrefl 0)
  | 1, _ => ⟨0, by omega, fun j hj => by
    have : j = 0 := by omega
    subst this
    exact lexN_irrefl _⟩
  | k + 2, _ => by
    obtain ⟨m, hm, h⟩ := lexN_least f (k + 1) (by omega)
    by_cases c : lexN (f (k + 1)) (f m) = true
    · refine ⟨k + 1, by omega, fun j hj => ?_⟩
      by_cases e : j = k + 1
      · subst e
        exact lexN_irrefl _
      · cases q : lexN (f j) (f (k + 1)) with
        | false => rfl
        | true =>
          have := lexN_trans _ _ _ q c
          rw [h j (by omega)] at this
          cases this
    · refine ⟨m, by omega, fun j hj => ?_⟩
      by_cases e : j = k + 1
      · subst e
        simpa using c
      · exact h j (by omega)

/-! ## The program's walks -/
def coveredBy (g : Abs) (j : Nat) : List Nat := (List.range g.n).filter fun i => g.covers j i
def lastOf (w : List Nat) : Nat := w.getLastD 0
def longer (g : Abs) (least : Nat) (ws : List (List Nat)) : List (List Nat) :=
  ws.flatMap fun w => ((coveredBy g (lastOf w)).filter fun i => decide (least ≤ i)).map fun i => w ++ [i]
def walksFrom (g : Abs) (least : Nat) : Nat → List (List Nat)
  | 0 => [[least]]
  | s + 1 => longer g least (walksFrom g least s)
def isLeast (w : List Nat) : Bool := (List.range' 1 (w.length - 1)).all fun t => lexN w (rt w t)
def closedFrom (g : Abs) (k least : Nat) : List (List Nat) := (walksFrom g least (k - 1)).filter fun w => g.covers (lastOf w) least && isLeast w
def closedWalks (g : Abs) (k : Nat) : List (List Nat) := (List.range g.n).flatMap (closedFrom g k)

theorem isLeast_iff {w : List Nat} : isLeast w = true ↔ ∀ t, 0 < t → t < w.length → lexN w (rt w t) = true := by
  unfold isLeast
  rw [List.all_eq_true]
  constructor
  · intro h t t0 t1
    exact h t (by rw [List.mem_range'_1]; omega)
  · intro h t ht
    rw [List.mem_range'_1] at ht
    exact h t (by omega) (by omega)

/-- from the piece j on, each covers the next -/
def Cv (g : Abs) : Nat → List Nat → Prop
  | _, [] => True
  | j, i :: r => g.covers j i = true ∧ i < g.n ∧ Cv g i r

theorem lastOf_cons (j : Nat) (r : List Nat) : lastOf (j :: r) = (j :: r).getLast (by simp) := by
  unfold lastOf
  rw [List.getLastD_eq_getLast?, List.getLast?_eq_some_getLast (by simp : j :: r ≠ [])]
  rfl

theorem lastOf_cons2 (j i : Nat) (r : List Nat) : lastOf (j :: i :: r) = lastOf (i :: r) := by
  rw [lastOf_cons, lastOf_cons, List.getLast_cons]

theorem lastOf_snoc (w : List Nat) (i : Nat) : lastOf (w ++ [i]) = i := by
  unfold lastOf
  simp

theorem Cov_iff {g : Abs} : ∀ (r : List Nat) (j l : Nat), Cov g j r l ↔ Cv g j r ∧ g.covers (lastOf (j :: r)) l = true
  | [], j, l => by
    show g.covers j l = true ↔ True ∧ g.covers j l = true
    simp
  | i :: r, j, l => by
    rw [lastOf_cons2]
    show (g.covers j i = true ∧ i < g.n ∧ Cov g i r l) ↔ (g.covers j i = true ∧ i < g.n ∧ Cv g i r) ∧ _
    rw [Cov_iff r i l]
    constructor
    · rintro ⟨a, b, c, d⟩
      exact ⟨⟨a, b, c⟩, d⟩
    · rintro ⟨⟨a, b, c⟩, d⟩
      exact ⟨a, b, c, d⟩

theorem Cv_snoc {g : Abs} : ∀ (r : List Nat) (j i : Nat), Cv g j (r ++ [i]) ↔ Cv g j r ∧ g.covers (lastOf (j :: r)) i = true ∧ i < g.n
  | [], j, i => by
    show (g.covers j i = true ∧ i < g.n ∧ True) ↔ True ∧ g.covers j i = true ∧ i < g.n
    simp
  | l :: r, j, i => by
    rw [lastOf_cons2]
    show (g.covers j l = true ∧ l < g.n ∧ Cv g l (r ++ [i])) ↔ (g.covers j l = true ∧ l < g.n ∧ Cv g l r) ∧ _
    rw [Cv_snoc r l i]
    constructor
    · rintro ⟨a, b, c, d, e⟩
      exact ⟨⟨a, b, c⟩, d, e⟩
    · rintro ⟨⟨a, b, c⟩, d, e⟩
      exact ⟨a, b, c, d, e⟩

theorem mem_coveredBy {g : Abs} {j i : Nat} : i ∈ coveredBy g j ↔ i < g.n ∧ g.covers j i = true := by
  unfold coveredBy
  rw [List.mem_filter, List.mem_range]

theorem mem_walksFrom {g : Abs} {least : Nat} : ∀ (s : Nat) (w : List Nat), w ∈ walksFrom g least s ↔ ∃ r, w = least :: r ∧ r.length = s ∧ Cv g least r ∧ ∀ i ∈ r, least ≤ i
  | 0, w => by
    unfold walksFrom
    rw [List.mem_singleton]
    constructor
    · rintro rfl
      exact ⟨[], rfl, rfl, trivial, fun i hi => by simp at hi⟩
    · rintro ⟨r, rfl, hr, _, _⟩
      rw [List.length_eq_zero_iff.mp hr]
  | s + 1, w => by
    unfold walksFrom longer
    rw [List.mem_flatMap]
    constructor
    · rintro ⟨u, hu, hw⟩
      rw [List.mem_map] at hw
      obtain ⟨i, hi, rfl⟩ := hw
      rw [List.mem_filter, mem_coveredBy, decide_eq_true_iff] at hi
      obtain ⟨r, rfl, hr, hc, hl⟩ := (mem_walksFrom s u).mp hu
      refine ⟨r ++ [i], rfl, by simp [hr], (Cv_snoc r least i).mpr ⟨hc, hi.1.2, hi.1.1⟩, fun x hx => ?_⟩
      rcases List.mem_append.mp hx with hx | hx
      · exact hl x hx
      · rw [List.mem_singleton.mp hx]
        exact hi.2
    · rintro ⟨r, rfl, hr, hc, hl⟩
      have hne : r ≠ [] := fun e => by rw [e] at hr; simp at hr
      have er := List.dropLast_concat_getLast hne
      generalize r.getLast hne = i at *
      generalize r.dropLast = q at *
      subst er
      rw [Cv_snoc] at hc
      refine ⟨least :: q, (mem_walksFrom s _).mpr ⟨q, rfl, by simpa using hr, hc.1, fun x hx => hl x (List.mem_append_left _ hx)⟩, ?_⟩
      rw [List.mem_map]
      refine ⟨i, ?_, rfl⟩
      rw [List.mem_filter, mem_coveredBy, decide_eq_true_iff]
      exact ⟨⟨hc.2.2, hc.2.1⟩, hl i (by simp)⟩

theorem mem_closedWalks {g : Abs} {k : Nat} (k0 : 0 < k) {w : List Nat} : w ∈ closedWalks g k ↔ Cl g w ∧ w.length = k ∧ isLeast w = true := by
  unfold closedWalks
  rw [List.mem_flatMap]
  constructor
  · rintro ⟨j, hj, hw⟩
    rw [List.mem_range] at hj
    unfold closedFrom at hw
    rw [List.mem_filter, Bool.and_eq_true, mem_walksFrom] at hw
    obtain ⟨⟨r, rfl, hr, hc, hl⟩, h1, h2⟩ := hw
    exact ⟨⟨j, r, rfl, hj, (Cov_iff r j j).mpr ⟨hc, h1⟩⟩, by simp [hr]; omega, h2⟩
  · rintro ⟨⟨j, r, rfl, hj, hc⟩, hk, hl⟩
    refine ⟨j, List.mem_range.mpr hj, ?_⟩
    unfold closedFrom
    rw [List.mem_filter, Bool.and_eq_true, mem_walksFrom]
    rw [Cov_iff] at hc
    refine ⟨⟨r, rfl, by simp at hk; omega, hc.1, fun i hi => ?_⟩, hc.2, hl⟩
    obtain ⟨t, ht, rfl⟩ := List.mem_iff_getElem.mp hi
    have ht2 : t + 1 < (j :: r).length := by simpa using ht
    have q := isLeast_iff.mp hl (t + 1) (by omega) ht2
    obtain ⟨u, e, _⟩ := rt_succ (j :: r) (t + 1) ht2
    rw [e] at q
    exact lexN_head q

theorem nodup_filter {l : List α} (h : l.Nodup) (p : α → Bool) : (l.filter p).Nodup := List.Pairwise.filter p h

theorem nodup_flatMap {f : α → List β} : ∀ {l : List α}, l.Nodup → (∀ a ∈ l, (f a).Nodup) → (∀ a ∈ l, ∀ b ∈ l, ∀ x, x ∈ f a → x ∈ f b → a = b) → (l.flatMap f).Nodup
  | [], _, _, _ => List.nodup_nil
  | a :: l, hn, h1, h2 => by
    rw [List.flatMap_cons, List.nodup_append]
    rw [List.nodup_cons] at hn
    refine ⟨h1 a List.mem_cons_self, nodup_flatMap hn.2 (fun b hb => h1 b (List.mem_cons_of_mem _ hb)) (fun b hb c hc => h2 b (List.mem_cons_of_mem _ hb) c (List.mem_cons_of_mem _ hc)), ?_⟩
    intro x hx y hy e
    subst e
    rw [List.mem_flatMap] at hy
    obtain ⟨b, hb, hy⟩ := hy
    have := h2 a List.mem_cons_self b (List.mem_cons_of_mem _ hb) x hx hy
    subst this
    exact hn.1 hb

theorem nodup_map_on {f : α → β} : ∀ {l : List α}, l.Nodup → (∀ a ∈ l, ∀ b ∈ l, f a = f b → a = b) → (l.map f).Nodup
  | [], _, _ => List.nodup_nil
  | a :: l, hn, h => by
    rw [List.nodup_cons] at hn
    rw [List.map_cons, List.nodup_cons]
    refine ⟨fun q => ?_, nodup_map_on hn.2 fun b hb c hc => h b (List.mem_cons_of_mem _ hb) c (List.mem_cons_of_mem _ hc)⟩
    rw [List.mem_map] at q
    obtain ⟨b, hb, e⟩ := q
    have := h b (List.mem_cons_of_mem _ hb) a List.mem_cons_self e
    subst this
    exact hn.1 hb

theorem nodup_walksFrom {g : Abs} {least : Nat} : ∀ (s : Nat), (walksFrom g least s).Nodup
  | 0 => by
    unfold walksFrom
    simp
  | s + 1 => by
    unfold walksFrom longer
    apply nodup_flatMap (nodup_walksFrom s)
    · intro w _
      apply nodup_map_on
      · exact nodup_filter (nodup_filter List.nodup_range _) _
      · intro a _ b _ e
        have := List.append_cancel_left e
        simpa using this
    · intro u _ v _ x hx hy
      rw [List.mem_map] at hx hy
      obtain ⟨i, _, rfl⟩ := hx
      obtain ⟨j, _, e⟩ := hy
      have := congrArg List.dropLast e
      simpa using this.symm

theorem nodup_closedWalks {g : Abs} {k : Nat} : (closedWalks g k).Nodup := by
  unfold closedWalks
  apply nodup_flatMap List.nodup_range
  · intro j _
    unfold closedFrom
    exact nodup_filter (nodup_walksFrom _) _
  · intro i _ j _ w hi hj
    unfold closedFrom at hi hj
    rw [List.mem_filter, mem_walksFrom] at hi hj
    obtain ⟨⟨r, rfl, _⟩, _⟩ := hi
    obtain ⟨⟨q, e, _⟩, _⟩ := hj
    exact (List.cons.inj e).1

/-! ## Numbers of a walk -/
theorem slope_le {g : Abs} (h : WF g) (j : Nat) : (g.slope j).natAbs ≤ 6 := by
  have a := h.point_le j
  have b := h.point_le (j + 1)
  have c := h.six
  rw [slope_eq]
  omega

theorem along_le {g : Abs} (h : WF g) : ∀ (w : List Nat), (g.along w).1.natAbs ≤ 6 ^ w.length
  | [] => by
    show (1 : Int).natAbs ≤ 6 ^ 0
    decide
  | j :: r => by
    rw [along_cons]
    dsimp only
    rw [Int.natAbs_mul, List.length_cons, Nat.pow_succ]
    exact Nat.mul_le_mul (along_le h r) (slope_le h j)

end FL

namespace FL
open Su183

/-! ## When it is somewhere again -/
structure FirstRep (f : Nat → Frac) (b m : Nat) : Prop where
  lt : b < m
  eq : f b = f m
  ne : ∀ i j, i < j → j < m → f i ≠ f j

theorem FirstRep.exists {f : Nat → Frac} : ∀ N, (∃ i j, i < j ∧ j < N ∧ f i = f j) → ∃ b m, m < N ∧ FirstRep f b m
  | 0, ⟨i, j, _, h, _⟩ => absurd h (Nat.not_lt_zero _)
  | N + 1, ⟨i, j, h1, h2, h3⟩ => by
    by_cases c : ∃ i j, i < j ∧ j < N ∧ f i = f j
    · obtain ⟨b, m, hm, r⟩ := FirstRep.exists N c
      exact ⟨b, m, by omega, r⟩
    · have e : j = N := by
        false_or_by_contra
        exact c ⟨i, j, h1, by omega, h3⟩
      subst e
      exact ⟨i, j, by omega, h1, h3, fun a b hab hb q => c ⟨a, b, hab, hb, q⟩⟩

/-- the places of x, and how many they can be -/
def Pl (g : Abs) (x : Frac) : Prop := Red x ∧ InL g x.2 x.1

theorem Pl.red {g : Abs} {X : Int} {B : Nat} (hB : 0 < B) (hX : InL g B X) : Pl g (red X B) := by
  refine ⟨red_isRed hB, ?_⟩
  obtain ⟨c, hc, h1, h2, h3⟩ := red_parts X B hB
  have k2 : (B : Int) = c * ((Su183.red X B).2 : Int) := by exact_mod_cast h2
  obtain ⟨a, b⟩ := hX
  generalize Su183.red X B = r at *
  rw [h1] at a b
  rw [k2] at b
  have hc' : (0 : Int) < c := by omega
  constructor
  · false_or_by_contra
    rename_i q
    have := Int.mul_neg_of_pos_of_neg hc' (show r.1 < 0 by omega)
    omega
  · rw [Int.mul_left_comm] at b
    exact Int.le_of_mul_le_mul_left b hc'

theorem Pl.put {g : Abs} (h : WF g) {x : Frac} (p : Pl g x) : Pl g (g.put x) := by
  rw [put_Red p.1]
  exact Pl.red p.1.1 (Fn_in h (by have := p.1.1; omega) p.2)

theorem Pl.after {g : Abs} (h : WF g) {x : Frac} (p : Pl g x) : ∀ k, Pl g (g.after x k)
  | 0 => p
  | k + 1 => by
    rw [after_succ']
    exact Pl.put h (p.after h k)

theorem after_add (g : Abs) (x : Frac) (j : Nat) : ∀ k, g.after x (j + k) = g.after (g.after x j) k
  | 0 => rfl
  | k + 1 => by
    show g.after x (j + k + 1) = _
    rw [after_succ', after_succ', after_add g x j k]

theorem after_it {g : Abs} {x : Frac} (r : Red x) (k : Nat) : g.after x k = red (it g x.2 x.1 k) x.2 := by
  have := after_red (g := g) (X := x.1) r.1 k
  rwa [red_self r] at this

theorem distinct_bound {g : Abs} (h : WF g) {x : Frac} (p : Pl g x) {s : Nat} (hd : ∀ i j, i < j → j < s → g.after x i ≠ g.after x j) : s ≤ g.n * x.2 + 1 := by
  have hB : (0 : Int) < x.2 := by have := p.1.1; omega
  have hn : ((List.range s).map fun t => (it g x.2 x.1 t).toNat).Nodup := by
    apply nodup_map_range
    intro a b hab hb e
    apply hd a b hab hb
    rw [after_it p.1, after_it p.1]
    have ia := it_in h hB p.2 a
    have ib := it_in h hB p.2 b
    have : it g x.2 x.1 a = it g x.2 x.1 b := by
      have := ia.1
      have := ib.1
      omega
    rw [this]
  have hl : ∀ y ∈ ((List.range s).map fun t => (it g x.2 x.1 t).toNat), y < g.n * x.2 + 1 := by
    intro y hy
    rw [List.mem_map] at hy
    obtain ⟨t, _, rfl⟩ := hy
    have i := it_in h hB p.2 t
    have i1 := i.1
    have i2 := i.2
    have e : ((g.n * x.2 : Nat) : Int) = (g.n : Int) * x.2 := by push_cast; rfl
    omega
  have := below_length hn hl
  simpa using this

theorem rep_exists {g : Abs} (h : WF g) {x : Frac} (p : Pl g x) : ∃ b m, m < g.n * x.2 + 2 ∧ FirstRep (g.after x) b m := by
  apply FirstRep.exists
  false_or_by_contra
  rename_i c
  have := distinct_bound h p (s := g.n * x.2 + 2) fun i j hij hj e => c ⟨i, j, hij, hj, e⟩
  omega

theorem FirstRep.per {g : Abs} {x : Frac} {b m : Nat} (r : FirstRep (g.after x) b m) (t : Nat) : g.after x (m + t) = g.after x (b + t) := by
  rw [after_add, after_add, r.eq]

/-- a place ahead of the round comes but once -/
theorem FirstRep.ahead {g : Abs} {x : Frac} {b m : Nat} (r : FirstRep (g.after x) b m) {i : Nat} (hi : i < b) : ∀ j, i < j → g.after x i ≠ g.after x j := by
  intro j
  induction j using Nat.strongRecOn with
  | _ j ih =>
    intro hj
    have := r.lt
    by_cases c : j < m
    · exact r.ne i j hj c
    · have e : g.after x j = g.after x (b + (j - m)) := by
        rw [← r.per]
        congr 1
        omega
      rw [e]
      exact ih _ (by omega) (by omega)

theorem takeWhile_range {p : α → Bool} {f : Nat → α} : ∀ (n s d : Nat), d < n → (∀ t, t < d → p (f (s + t)) = true) → p (f (s + d)) = false → (((List.range' s n).map f).takeWhile p).length = d
  | 0, s, d, h, _, _ => absurd h (Nat.not_lt_zero _)
  | n + 1, s, 0, _, _, h2 => by
    rw [List.range'_succ, List.map_cons, List.takeWhile_cons]
    rw [Nat.add_zero] at h2
    rw [h2]
    rfl
  | n + 1, s, d + 1, h, h1, h2 => by
    rw [List.range'_succ, List.map_cons, List.takeWhile_cons]
    have q := h1 0 (by omega)
    rw [Nat.add_zero] at q
    rw [if_pos q, List.length_cons]
    congr 1
    apply takeWhile_range n (s + 1) d (by omega)
    · intro t ht
      have := h1 (t + 1) (by omega)
      rwa [show s + (t + 1) = s + 1 + t by omega] at this
    · rwa [show s + (d + 1) = s + 1 + d by omega] at h2

theorem find_range {p : Nat → Bool} {N b : Nat} (hb : b < N) (h1 : ∀ i, i < b → p i = false) (h2 : p b = true) : (List.range N).find? p = some b := by
  rw [List.find?_range_eq_some]
  refine ⟨h2, List.mem_range.mpr hb, fun i hi => ?_⟩
  rw [h1 i hi]
  rfl

theorem comes_eq {g : Abs} (h : WF g) {x : Frac} (p : Pl g x) {b m : Nat} (r : FirstRep (g.after x) b m) : g.comes x = (b, m - b) := by
  have hm : m < g.n * x.2 + 2 := by
    have := distinct_bound h p r.ne
    omega
  have hl := r.lt
  unfold Abs.comes
  generalize hN : g.n * x.2 + 2 = N at *
  rw [way_eq]
  have gd : ∀ i, i < N → ((List.range N).map (g.after x)).getD i x = g.after x i := fun i hi => by
    rw [List.getD_eq_getElem?_getD, List.getElem?_map, List.getElem?_range hi]
    rfl
  have dr : ∀ i, ((List.range N).map (g.after x)).drop (i + 1) = (List.range' (i + 1) (N - (i + 1))).map (g.after x) := fun i => by
    rw [← List.map_drop, List.range_eq_range', List.drop_range']
    congr 2
    omega
  have hf : ((List.range ((List.range N).map (g.after x)).length).find? fun i => (((List.range N).map (g.after x)).drop (i + 1)).contains (((List.range N).map (g.after x)).getD i x)) = some b := by
    rw [List.length_map, List.length_range]
    apply find_range (by omega)
    · intro i hi
      rw [gd i (by omega), dr]
      rw [← Bool.not_eq_true, List.contains_iff_mem, List.mem_map]
      rintro ⟨j, hj, e⟩
      rw [List.mem_range'_1] at hj
      exact r.ahead hi j (by omega) e.symm
    · rw [gd b (by omega), dr, List.contains_iff_mem, List.mem_map]
      exact ⟨m, by rw [List.mem_range'_1]; omega, r.eq.symm⟩
  dsimp only
  rw [hf]
  dsimp only [Option.getD_some]
  rw [gd b (by omega), dr]
  rw [takeWhile_range (N - (b + 1)) (b + 1) (m - b - 1) (by omega)]
  · congr 1
    omega
  · intro t ht
    rw [bne_iff_ne]
    exact fun e => r.ne b (b + 1 + t) (by omega) (by omega) e.symm
  · have e : b + 1 + (m - b - 1) = m := by omega
    rw [e, ← r.eq]
    simp

theorem rep_back {g : Abs} {x : Frac} {k : Nat} : FirstRep (g.after x) 0 k ↔ g.back x k = true := by
  rw [back_iff]
  constructor
  · intro r
    exact ⟨r.lt, r.eq.symm, fun j j0 jk e => r.ne 0 j j0 jk e.symm⟩
  · rintro ⟨h1, h2, h3⟩
    refine ⟨h1, h2.symm, fun i j hij hj e => ?_⟩
    have q : g.after x (i + (k - j)) = g.after x (j + (k - j)) := by rw [after_add, after_add, e]
    rw [show j + (k - j) = k by omega, h2] at q
    exact h3 _ (by omega) (by omega) q

theorem comes_zero {g : Abs} (h : WF g) {x : Frac} (p : Pl g x) {k : Nat} : g.comes x = (0, k) ↔ g.back x k = true := by
  obtain ⟨b, m, hm, r⟩ := rep_exists h p
  have e := comes_eq h p r
  constructor
  · intro q
    rw [e] at q
    obtain ⟨rfl, rfl⟩ := Prod.mk.inj q
    rw [Nat.sub_zero]
    exact rep_back.mp r
  · intro q
    have r' := rep_back.mpr q
    exact comes_eq h p r'

end FL

namespace FL
open Su183

/-! ## The program's rounds -/
abbrev Rd := List Int × Int
def minL (l : List Int) : Int := l.foldl min (l.headD 0)
theorem foldl_min (l : List Int) : ∀ m : Int, (l.foldl min m = m ∨ l.foldl min m ∈ l) ∧ l.foldl min m ≤ m ∧ ∀ x ∈ l, l.foldl min m ≤ x := by
  induction l with
  | nil => intro m; simp
  | cons a l ih =>
    intro m
    rw [List.foldl_cons]
    obtain ⟨h1, h2, h3⟩ := ih (min m a)
    refine ⟨?_, by omega, ?_⟩
    · rcases h1 with h1 | h1
      · by_cases c : m ≤ a
        · left; omega
        · right
          have : List.foldl min (min m a) l = a := by omega
          rw [this]
          exact List.mem_cons_self
      · exact .inr (List.mem_cons_of_mem _ h1)
    · intro x hx
      rcases List.mem_cons.mp hx with rfl | hx
      · omega
      · exact h3 x hx
theorem minL_mem {l : List Int} (h : l ≠ []) : minL l ∈ l := by
  cases l with
  | nil => exact absurd rfl h
  | cons a l =>
    unfold minL
    rcases (foldl_min (a :: l) a).1 with e | e
    · show List.foldl min a (a :: l) ∈ a :: l
      rw [e]
      exact List.mem_cons_self
    · exact e
theorem minL_le {l : List Int} {x : Int} (h : x ∈ l) : minL l ≤ x := by
  unfold minL
  exact (foldl_min l _).2.2 x h
theorem minL_unique {l : List Int} {m : Int} (h1 : m ∈ l) (h2 : ∀ x ∈ l, m ≤ x) : minL l = m := by
  have a := minL_le h1
  have b := h2 _ (minL_mem (List.ne_nil_of_mem h1))
  omega

def fromLeast (pl : List Int) (B : Int) : Rd := (pl.drop (pl.idxOf (minL pl)) ++ pl.take (pl.idxOf (minL pl)), B)
def fxX (g : Abs) (w : List Nat) : Int := if 1 - (g.along w).1 < 0 then -(g.along w).2 else (g.along w).2
def fxB (g : Abs) (w : List Nat) : Int := if 1 - (g.along w).1 < 0 then -(1 - (g.along w).1) else 1 - (g.along w).1
def roundOf (g : Abs) (w : List Nat) : Option Rd := if fxX g w % fxB g w = 0 then none else some (fromLeast (plN g (fxB g w) (fxX g w) w) (fxB g w))
def pointPl (g : Abs) (k p : Nat) : List Int := (g.way (ofNat p) k).map (·.1)
def pointRound (g : Abs) (k p : Nat) : Option Rd := if g.comes (ofNat p) = (0, k) ∧ (p : Int) = minL (pointPl g k p) then some (pointPl g k p, 1) else none
def someR (g : Abs) (k : Nat) : List Rd := (closedWalks g k).filterMap (roundOf g) ++ (List.range (g.n + 1)).filterMap (pointRound g k)
def SCALE : Int := 1000000000000
def keyOf (r : Rd) : Int := r.1.headD 0 * SCALE / r.2
def fr (r : Rd) : Frac := red (r.1.headD 0) r.2.toNat

def Rnd (g : Abs) (k : Nat) (r : Rd) : Prop := ∃ (X : Int) (B : Nat), 0 < B ∧ B ≤ 6 ^ k + 1 ∧ r = ((List.range k).map (it g B X), (B : Int)) ∧ InL g B X ∧ Bk g B X k ∧ ∀ t, t < k → X ≤ it g B X t

theorem rot_map_range {f : Nat → α} {k d : Nat} (hf : ∀ s, f (k + s) = f s) (hd : d ≤ k) : ((List.range k).map f).drop d ++ ((List.range k).map f).take d = (List.range k).map fun t => f (d + t) := by
  apply List.ext_getElem
  · simp
    omega
  · intro i h1 h2
    have hi : i < k := by simpa using h2
    rw [List.getElem_append]
    split
    · rename_i c
      simp
    · rename_i c
      simp at c
      simp
      have e : d + i = k + (i - (k - d)) := by omega
      rw [e, hf]

theorem fromLeast_is {g : Abs} {B X : Int} {k : Nat} (k0 : 0 < k) (e : it g B X k = X) : ∃ a, a < k ∧ fromLeast ((List.range k).map (it g B X)) B = ((List.range k).map (it g B (it g B X a)), B) ∧ ∀ t, it g B X a ≤ it g B X t := by
  generalize hp : (List.range k).map (it g B X) = pl
  have hne : pl ≠ [] := by
    rw [← hp]
    intro q
    have := congrArg List.length q
    simp at this
    omega
  have hm := minL_mem hne
  have ha := List.idxOf_lt_length_of_mem hm
  have hv : pl[pl.idxOf (minL pl)] = minL pl := List.getElem_idxOf ha
  have hk : pl.length = k := by rw [← hp]; simp
  refine ⟨pl.idxOf (minL pl), by omega, ?_, fun t => ?_⟩
  · unfold fromLeast
    congr 1
    generalize pl.idxOf (minL pl) = a at *
    subst hp
    rw [rot_map_range (fun s => by rw [it_add, e]) (by omega)]
    apply List.map_congr_left
    intro t _
    exact it_add g B X a t
  · have hv2 : it g B X (pl.idxOf (minL pl)) = minL pl := by
      have q : ∀ (a : Nat) (h : a < pl.length), pl[a] = it g B X a := by
        subst hp
        intro a h
        simp
      rw [← q _ ha]
      exact hv
    rw [hv2, it_mod e t]
    apply minL_le
    rw [← hp, List.mem_map]
    exact ⟨t % k, List.mem_range.mpr (Nat.mod_lt _ k0), rfl⟩

/-- a walk with factor 1, none that goes a shorter one again: then there are endlessly many -/
theorem factor_one {g : Abs} (h : WF g) {k : Nat} (k0 : 0 < k) {w : List Nat} (hw : w ∈ closedWalks g k) (ha : (g.along w).1 = 1) : endl g k = true := by
  obtain ⟨⟨j, r, rfl, hj, hc⟩, hk, hl⟩ := (mem_closedWalks k0).mp hw
  obtain ⟨u1, u2, u3, u4⟩ := unit_walk r j j hc (.inl ha)
  have hk' : r.length + 1 = k := by simpa using hk
  rw [hk'] at u1 u2 u3 u4
  obtain ⟨d, hd, f⟩ := FR.exists k k0 u3 u2.symm
  rw [endl_iff h k0]
  refine ⟨j, d, hj, f, ?_⟩
  by_cases c : d < k
  · have := isLeast_iff.mp hl d f.pos (by omega)
    rw [u1] at this
    unfold rt pth at this
    rw [rot_map_range (fun s => by rw [nxi_add, ← u2]) hd] at this
    have e : (fun t => nxi g j (d + t)) = nxi g j := by
      funext t
      exact f.shift t
    rw [e, lexN_irrefl] at this
    cases this
  · have e : d = k := by omega
    subst e
    unfold stepsBy
    rw [← u4, ha, if_pos rfl]

theorem walk_fix {g : Abs} (h : WF g) {k : Nat} (k0 : 0 < k) (ne : endl g k = false) {w : List Nat} (hw : w ∈ closedWalks g k) :
    0 < fxB g w ∧ fxB g w ≤ 6 ^ k + 1 ∧ Fx g (fxB g w) w (fxX g w) := by
  have hw2 := (mem_closedWalks k0).mp hw
  have a1 : (g.along w).1 ≠ 1 := fun e => by
    rw [factor_one h k0 hw e] at ne
    cases ne
  have hB : 0 < fxB g w := by
    unfold fxB
    split <;> omega
  refine ⟨hB, ?_, hw2.1, a1, ?_⟩
  · have := along_le h w
    rw [hw2.2.1] at this
    have e : ((6 ^ k : Nat) : Int) = (6 : Int) ^ k := by push_cast; rfl
    rw [← e]
    unfold fxB
    split <;> omega
  · rw [alN_eq]
    unfold fxB fxX
    generalize (g.along w).1 = a
    generalize (g.along w).2 = b
    split <;> grind

/-- of a walk of the program: its round -/
theorem round_of {g : Abs} (h : WF g) {k : Nat} (k0 : 0 < k) (ne : endl g k = false) {w : List Nat} (hw : w ∈ closedWalks g k) (hn : ¬ fxX g w % fxB g w = 0) :
    ∃ (B : Nat) (a : Nat), (B : Int) = fxB g w ∧ 0 < B ∧ B ≤ 6 ^ k + 1 ∧ a < k ∧ InL g B (fxX g w) ∧ Bk g B (fxX g w) k ∧ itn g B (fxX g w) k = w ∧ NI B (fxX g w) ∧
      roundOf g w = some ((List.range k).map (it g B (it g B (fxX g w) a)), (B : Int)) ∧ ∀ t, it g B (fxX g w) a ≤ it g B (fxX g w) t := by
  obtain ⟨hB, hB2, f⟩ := walk_fix h k0 ne hw
  have hw2 := (mem_closedWalks k0).mp hw
  have eB : ((fxB g w).toNat : Int) = fxB g w := by omega
  refine ⟨(fxB g w).toNat, ?_⟩
  rw [eB]
  have hk := hw2.2.1
  have hb := f.back h hB
  have hi := f.itn h hB hn
  rw [hk] at hb hi
  have hBk : Bk g (fxB g w) (fxX g w) k := by
    refine ⟨k0, hb, fun j j0 jk e => ?_⟩
    have l := isLeast_iff.mp hw2.2.2 j j0 (by omega)
    have r := rt_itn hb j (by omega)
    rw [e, hi] at r
    rw [r, lexN_irrefl] at l
    cases l
  obtain ⟨a, ha, h1, h2⟩ := fromLeast_is k0 hb
  refine ⟨a, rfl, by omega, ?_, ha, f.inL h hB, hBk, hi, hn, ?_, h2⟩
  · have e : ((6 ^ k + 1 : Nat) : Int) = (6 : Int) ^ k + 1 := by push_cast; rfl
    omega
  · unfold roundOf
    rw [if_neg hn, plN_go h hB w _ hw2.1.lt (f.go h hB), hk, h1]

theorem ofNat_red (p : Nat) : ofNat p = red (p : Int) 1 := by
  unfold ofNat red
  simp

theorem ofNat_pl {g : Abs} {p : Nat} (hp : p ≤ g.n) : Pl g (ofNat p) := by
  refine ⟨⟨by show 0 < 1; decide, by show Nat.gcd _ 1 = 1; simp⟩, ?_⟩
  show InL g ((1 : Nat) : Int) (p : Int)
  constructor
  · omega
  · simp
    omega

theorem red_one (X : Int) : red X 1 = (X, 1) := by
  unfold red
  simp

theorem pointPl_eq (g : Abs) (k p : Nat) : pointPl g k p = (List.range k).map (it g 1 p) := by
  unfold pointPl
  rw [ofNat_red, way_red (by decide), List.map_map]
  apply List.map_congr_left
  intro t _
  show (red (it g ((1 : Nat) : Int) p t) 1).1 = _
  rw [red_one]
  rfl

theorem point_of {g : Abs} (h : WF g) {k p : Nat} (hp : p ≤ g.n) {r : Rd} : pointRound g k p = some r ↔ r = ((List.range k).map (it g 1 p), 1) ∧ Bk g 1 p k ∧ ∀ t, t < k → (p : Int) ≤ it g 1 p t := by
  unfold pointRound
  rw [pointPl_eq]
  have hb : g.comes (ofNat p) = (0, k) ↔ Bk g 1 p k := by
    rw [comes_zero h (ofNat_pl hp), ofNat_red, back_red (by decide)]
    rfl
  have hm : Bk g 1 p k → ((p : Int) = minL ((List.range k).map (it g 1 p)) ↔ ∀ t, t < k → (p : Int) ≤ it g 1 p t) := by
    intro b
    constructor
    · intro e t ht
      rw [e]
      conv => rhs; rw [← e]
      apply minL_le
      rw [List.mem_map]
      exact ⟨t, List.mem_range.mpr ht, rfl⟩
    · intro q
      symm
      apply minL_unique
      · rw [List.mem_map]
        exact ⟨0, List.mem_range.mpr b.1, rfl⟩
      · intro x hx
        rw [List.mem_map] at hx
        obtain ⟨t, ht, rfl⟩ := hx
        exact q t (List.mem_range.mp ht)
  constructor
  · intro e
    split at e
    · rename_i c
      have c1 := hb.mp c.1
      exact ⟨(Option.some.inj e).symm, c1, (hm c1).mp c.2⟩
    · cases e
  · rintro ⟨rfl, b, q⟩
    rw [if_pos ⟨hb.mpr b, (hm b).mpr q⟩]

theorem mem_someR {g : Abs} {k : Nat} {r : Rd} : r ∈ someR g k ↔ (∃ w, w ∈ closedWalks g k ∧ roundOf g w = some r) ∨ ∃ p, p ≤ g.n ∧ pointRound g k p = some r := by
  unfold someR
  rw [List.mem_append, List.mem_filterMap, List.mem_filterMap]
  constructor
  · rintro (⟨w, h1, h2⟩ | ⟨p, h1, h2⟩)
    · exact .inl ⟨w, h1, h2⟩
    · exact .inr ⟨p, by rw [List.mem_range] at h1; omega, h2⟩
  · rintro (⟨w, h1, h2⟩ | ⟨p, h1, h2⟩)
    · exact .inl ⟨w, h1, h2⟩
    · exact .inr ⟨p, by rw [List.mem_range]; omega, h2⟩

theorem roundOf_ni {g : Abs} {w : List Nat} {r : Rd} (e : roundOf g w = some r) : ¬ fxX g w % fxB g w = 0 := by
  unfold roundOf at e
  intro c
  rw [if_pos c] at e
  cases e

theorem rnd_of {g : Abs} (h : WF g) {k : Nat} (k0 : 0 < k) (ne : endl g k = false) {r : Rd} (hr : r ∈ someR g k) : Rnd g k r := by
  rcases mem_someR.mp hr with ⟨w, hw, e⟩ | ⟨p, hp, e⟩
  · obtain ⟨B, a, eB, hB, hB2, ha, hX, hBk, hi, hn, e2, hmin⟩ := round_of h k0 ne hw (roundOf_ni e)
    rw [e] at e2
    have e3 := Option.some.inj e2
    refine ⟨it g B (fxX g w) a, B, hB, hB2, e3, it_in h (by omega) hX a, hBk.shift a, fun t _ => ?_⟩
    rw [← it_add]
    exact hmin _
  · obtain ⟨rfl, b, q⟩ := (point_of h hp).mp e
    refine ⟨p, 1, by decide, Nat.le_add_left _ _, rfl, ?_, b, q⟩
    exact (ofNat_pl hp).2

theorem headD_range {f : Nat → Int} {k : Nat} (k0 : 0 < k) : ((List.range k).map f).headD 0 = f 0 := by
  cases k with
  | zero => omega
  | succ k => rw [List.range_succ_eq_map]; rfl

theorem fr_of {f : Nat → Int} {k : Nat} (k0 : 0 < k) (B : Nat) : fr ((List.range k).map f, (B : Int)) = red (f 0) B := by
  unfold fr
  dsimp only
  rw [headD_range k0]
  rfl

/-- what is told over other numbers below -/
theorem prop_pc {g : Abs} {X X' : Int} {B B' : Nat} (hB : 0 < B) (hB' : 0 < B') (e : red X B = red X' B') : pc g B X = pc g B' X' := by
  unfold pc
  rw [← red_ediv hB, ← red_ediv hB', e]

theorem prop_it {g : Abs} {X X' : Int} {B B' : Nat} (hB : 0 < B) (hB' : 0 < B') (e : red X B = red X' B') (t : Nat) : red (it g B X t) B = red (it g B' X' t) B' := by
  rw [← after_red hB, ← after_red hB', e]

theorem prop_itn {g : Abs} {B B' : Nat} (hB : 0 < B) (hB' : 0 < B') : ∀ (k : Nat) {X X' : Int}, red X B = red X' B' → itn g B X k = itn g B' X' k
  | 0, _, _, _ => rfl
  | k + 1, X, X', e => by
    show pc g B X :: itn g B (Fn g B X) k = pc g B' X' :: itn g B' (Fn g B' X') k
    rw [prop_pc hB hB' e]
    congr 1
    exact prop_itn hB hB' k (prop_it hB hB' e 1)

/-- each place that comes back, the least of its round, no point: the program has its walk -/
theorem walk_there {g : Abs} (h : WF g) {k : Nat} (k0 : 0 < k) (ne : endl g k = false) {X : Int} {B : Nat} (hB : 0 < B) (hX : InL g B X) (hb : Bk g B X k) (hn : NI B X) :
    ∃ m, m < k ∧ itn g B (it g B X m) k ∈ closedWalks g k ∧ (g.along (itn g B (it g B X m) k)).1 ≠ 1 := by
  have hB' : (0 : Int) < B := by omega
  obtain ⟨m, hm, hl⟩ := lexN_least (fun m => itn g B (it g B X m) k) k k0
  have hbm := hb.shift m
  have hXm := it_in h hB' hX m
  have hnm := NI.it k0 hb.2.1 hn m
  have hcl := cl_itn h hB' hXm hnm k0 hbm.2.1
  have a1 : (g.along (itn g B (it g B X m) k)).1 ≠ 1 := by
    intro e
    generalize it g B X m = Y at *
    obtain ⟨k', rfl⟩ : ∃ k', k = k' + 1 := ⟨k - 1, by omega⟩
    have hc := cov_itn h hB' k' Y hXm fun t _ => NI.it k0 hbm.2.1 hnm t
    rw [hbm.2.1] at hc
    obtain ⟨u1, u2, u3, u4⟩ := unit_walk _ _ _ hc (.inl e)
    rw [itn_length] at u1 u2 u3 u4
    have u4' : (1 : Int) = _ := e.symm.trans u4
    have st := pc_strict h hB' hXm hnm
    have eY : Y = (pc g B Y : Int) * B + (Y - (pc g B Y : Int) * B) := by omega
    have q := endl_of h (pc_lt h B Y) k0 u3 u2.symm u4'.symm hB' (c := Y - (pc g B Y : Int) * B) (by omega) (by
      rw [Int.add_mul, Int.one_mul] at st
      omega) (by rw [← eY]; exact hbm)
    rw [q] at ne
    cases ne
  refine ⟨m, hm, ?_, a1⟩
  rw [mem_closedWalks k0]
  refine ⟨hcl, itn_length _ _ _ _, isLeast_iff.mpr fun t t0 tk => ?_⟩
  rw [itn_length] at tk
  rw [rt_itn hbm.2.1 t (by omega), ← it_add, it_mod hb.2.1 (m + t)]
  have hq := hl ((m + t) % k) (Nat.mod_lt _ k0)
  cases c : lexN (itn g B (it g B X m) k) (itn g B (it g B X ((m + t) % k)) k) with
  | true => rfl
  | false =>
    exfalso
    have e := lexN_tri _ _ c hq
    rw [← it_mod hb.2.1 (m + t), it_add] at e
    have f1 : alN g B (itn g B (it g B X m) k) (it g B X m) = it g B X m := by rw [alN_itn, hbm.2.1]
    have f2 : alN g B (itn g B (it g B X m) k) (it g B (it g B X m) t) = it g B (it g B X m) t := by
      rw [e, alN_itn, (hbm.shift t).2.1]
    have := fix_one a1 f1 f2
    have := Int.eq_of_mul_eq_mul_right (by omega) this
    exact hbm.2.2 t t0 tk this.symm

theorem all_there {g : Abs} (h : WF g) {k : Nat} (k0 : 0 < k) (ne : endl g k = false) {X : Int} {B : Nat} (hB : 0 < B) (hX : InL g B X) (hb : Bk g B X k) (hl : ∀ t, t < k → X ≤ it g B X t) :
    ∃ r, r ∈ someR g k ∧ fr r = red X B := by
  have hB' : (0 : Int) < B := by omega
  by_cases hn : X % (B : Int) = 0
  · -- a point
    obtain ⟨p, rfl⟩ := Int.dvd_of_emod_eq_zero hn
    have p0 : 0 ≤ p := by
      false_or_by_contra
      have := Int.mul_neg_of_pos_of_neg hB' (show p < 0 by omega)
      have := hX.1
      omega
    obtain ⟨p, rfl⟩ := Int.eq_ofNat_of_zero_le p0
    have hp : p ≤ g.n := by
      have := hX.2
      rw [Int.mul_comm] at this
      have := Int.le_of_mul_le_mul_right this hB'
      omega
    have e : red ((B : Int) * p) B = red p 1 := by
      rw [red_eq hB (by decide)]
      rw [Int.mul_comm (B : Int)]
      simp
    have hb1 : Bk g 1 p k := by
      have := (back_red (g := g) (k := k) hB).mpr hb
      rw [e, back_red (by decide)] at this
      exact this
    refine ⟨((List.range k).map (it g 1 p), 1), mem_someR.mpr (.inr ⟨p, hp, (point_of h hp).mpr ⟨rfl, hb1, fun t ht => ?_⟩⟩), ?_⟩
    · have q := hl t ht
      have e2 := prop_it (g := g) hB (by decide) e t
      rw [red_eq hB (by decide)] at e2
      have e3 : it g B (B * p) t = it g 1 p t * B := by simpa using e2
      rw [e3, Int.mul_comm] at q
      exact Int.le_of_mul_le_mul_right q hB'
    · have := fr_of (f := it g 1 p) k0 1
      rw [e]
      exact this
  · obtain ⟨m, hm, hw, a1⟩ := walk_there h k0 ne hB hX hb hn
    have hbm := hb.shift m
    have hnm : NI B (it g B X m) := NI.it k0 hb.2.1 hn m
    generalize hwd : itn g B (it g B X m) k = w at *
    -- the walk's own place is the same
    obtain ⟨fB, _, fF⟩ := walk_fix h k0 ne hw
    have f1 : alN g B w (it g B X m) = it g B X m := by rw [← hwd, alN_itn, hbm.2.1]
    have pr := fix_one a1 f1 fF.fix
    have hn2 : ¬ fxX g w % fxB g w = 0 := by
      intro c
      obtain ⟨q, hq⟩ := Int.dvd_of_emod_eq_zero c
      rw [hq] at pr
      have : fxB g w * (it g B X m) = fxB g w * (q * B) := by grind
      have := Int.eq_of_mul_eq_mul_left (by omega) this
      apply hnm
      rw [this]
      exact Int.mul_emod_left _ _
    obtain ⟨B', a, eB, hB0, hB2, ha, hX', hBk, hi, hn', e2, hmin⟩ := round_of h k0 ne hw hn2
    refine ⟨_, mem_someR.mpr (.inl ⟨w, hw, e2⟩), ?_⟩
    rw [fr_of k0]
    show red (it g B' (fxX g w) a) B' = red X B
    rw [← eB] at pr
    have er : red (fxX g w) B' = red (it g B X m) B := by
      rw [red_eq hB0 hB]
      exact pr.symm
    -- both are the least of one round
    have x1 : red (it g B' (fxX g w) a) B' = red (it g B X (m + a)) B := by
      rw [it_add]
      exact prop_it hB0 hB er a
    have x2 : red (it g B' (fxX g w) (k - m)) B' = red X B := by
      have := prop_it (g := g) hB0 hB er (k - m)
      rw [← it_add, show m + (k - m) = k by omega, hb.2.1] at this
      exact this
    have l1 : X ≤ it g B X (m + a) := by
      rw [it_mod hb.2.1]
      exact hl _ (Nat.mod_lt _ k0)
    have l2 := hmin (k - m)
    rw [red_eq hB0 hB] at x1 x2 ⊢
    -- l1 over B', l2 over B
    have l1' := Int.mul_le_mul_of_nonneg_right l1 (show (0 : Int) ≤ B' by omega)
    have l2' := Int.mul_le_mul_of_nonneg_right l2 (show (0 : Int) ≤ B by omega)
    omega

/-- no two of the program's rounds have one least place -/
theorem nodup_fr {g : Abs} (h : WF g) {k : Nat} (k0 : 0 < k) (ne : endl g k = false) : ((someR g k).map fr).Nodup := by
  unfold someR
  rw [List.map_append, List.nodup_append]
  refine ⟨?_, ?_, ?_⟩
  · unfold List.Nodup
    rw [List.pairwise_map, List.pairwise_filterMap]
    apply List.Pairwise.imp_of_mem ?_ nodup_closedWalks
    intro w v hw hv hne r er s es e
    apply hne
    obtain ⟨B, a, eB, hB, hB2, ha, hX, hBk, hi, hn, e2, hmin⟩ := round_of h k0 ne hw (roundOf_ni er)
    obtain ⟨C, b, eC, hC, hC2, hb, hY, hCk, hi', hn', e2', hmin'⟩ := round_of h k0 ne hv (roundOf_ni es)
    rw [er] at e2
    rw [es] at e2'
    cases Option.some.inj e2
    cases Option.some.inj e2'
    rw [fr_of k0, fr_of k0] at e
    have e' : red (it g B (fxX g w) a) B = red (it g C (fxX g v) b) C := e
    -- w is v, turned
    have key : ∀ {w v : List Nat} {B C a b : Nat}, 0 < B → 0 < C → a < k → w ∈ closedWalks g k → v ∈ closedWalks g k → Bk g B (fxX g w) k → Bk g C (fxX g v) k → itn g B (fxX g w) k = w → itn g C (fxX g v) k = v → red (it g B (fxX g w) a) B = red (it g C (fxX g v) b) C → w = v ∨ lexN v w = true := by
      intro w v B C a b hB hC ha hw hv hBk hCk hi hi' e
      have q := prop_it (g := g) hB hC e (k - a)
      rw [← it_add, ← it_add, show a + (k - a) = k by omega, hBk.2.1, it_mod hCk.2.1] at q
      have q2 := prop_itn (g := g) hB hC k q
      have lt : (b + (k - a)) % k < k := Nat.mod_lt _ k0
      generalize (b + (k - a)) % k = s at *
      rw [hi, ← rt_itn hCk.2.1 s (by omega), hi'] at q2
      by_cases s0 : s = 0
      · left
        rw [q2, s0, rt_zero]
      · right
        rw [q2]
        have hv2 := (mem_closedWalks k0).mp hv
        exact isLeast_iff.mp hv2.2.2 s (by omega) (by omega)
    rcases key hB hC ha hw hv hBk hCk hi hi' e' with q | q
    · exact q
    · rcases key hC hB hb hv hw hCk hBk hi' hi e'.symm with q' | q'
      · exact q'.symm
      · have := lexN_trans _ _ _ q q'
        rw [lexN_irrefl] at this
        cases this
  · unfold List.Nodup
    rw [List.pairwise_map, List.pairwise_filterMap]
    apply List.Pairwise.imp_of_mem ?_ List.nodup_range
    intro p q hp hq hne r er s es e
    rw [List.mem_range] at hp hq
    apply hne
    obtain ⟨rfl, _, _⟩ := (point_of h (by omega)).mp er
    obtain ⟨rfl, _, _⟩ := (point_of h (by omega)).mp es
    have a := fr_of (f := it g 1 p) k0 1
    have b := fr_of (f := it g 1 q) k0 1
    have e' : red (it g 1 p 0) 1 = red (it g 1 q 0) 1 := a.symm.trans (e.trans b)
    rw [red_inj (by decide)] at e'
    have : (p : Int) = q := e'
    omega
  · intro x hx y hy e
    subst e
    rw [List.mem_map] at hx hy
    obtain ⟨r, hr, rfl⟩ := hx
    obtain ⟨s, hs, e⟩ := hy
    rw [List.mem_filterMap] at hr hs
    obtain ⟨w, hw, er⟩ := hr
    obtain ⟨p, hp, es⟩ := hs
    rw [List.mem_range] at hp
    obtain ⟨B, a, eB, hB, hB2, ha, hX, hBk, hi, hn, e2, hmin⟩ := round_of h k0 ne hw (roundOf_ni er)
    rw [er] at e2
    cases Option.some.inj e2
    obtain ⟨rfl, _, _⟩ := (point_of h (by omega)).mp es
    have b := fr_of (f := it g 1 p) k0 1
    rw [fr_of k0] at e
    have e' : red (it g B (fxX g w) a) B = red (p : Int) 1 := e.symm.trans b
    rw [red_eq hB (by decide)] at e'
    have n2 := NI.it k0 hBk.2.1 hn a
    apply n2
    have e3 : it g B (fxX g w) a = p * B := by simpa using e'
    rw [e3]
    exact Int.mul_emod_left _ _

end FL

namespace FL
open Su183

/-! ## The order of fractions -/
theorem lt_irrefl (a : Frac) : lt a a = false := by
  unfold lt
  simp

theorem lt_red' {a b : Frac} (ha : Red a) (hb : Red b) : lt a b = decide (a.1 * (b.2 : Int) < b.1 * (a.2 : Int)) := rfl

theorem lt_total {a b : Frac} (ha : Red a) (hb : Red b) (h1 : lt a b = false) (h2 : lt b a = false) : a = b := by
  unfold lt at h1 h2
  rw [decide_eq_false_iff_not] at h1 h2
  exact Red.eq_of_cross ha hb (by omega)

theorem lt_trans {a b c : Frac} (ha : Red a) (hb : Red b) (hc : Red c) (h1 : lt a b = true) (h2 : lt b c = true) : lt a c = true := by
  unfold lt at *
  rw [decide_eq_true_iff] at *
  have p1 : (0 : Int) < a.2 := by have := ha.1; omega
  have p2 : (0 : Int) < b.2 := by have := hb.1; omega
  have p3 : (0 : Int) < c.2 := by have := hc.1; omega
  generalize (a.2 : Int) = A at *
  generalize (b.2 : Int) = B at *
  generalize (c.2 : Int) = C at *
  have m1 := Int.mul_lt_mul_of_pos_right h1 p3
  have m2 := Int.mul_lt_mul_of_pos_right h2 p1
  have e1 : b.1 * A * C = b.1 * C * A := by grind
  have e2 : a.1 * B * C = (a.1 * C) * B := by grind
  have e3 : c.1 * B * A = (c.1 * A) * B := by grind
  rw [e2, e1] at m1
  rw [e3] at m2
  exact Int.lt_of_mul_lt_mul_right (a := B) (by omega) (by omega)

theorem lt_asymm {a b : Frac} (h : lt a b = true) : lt b a = false := by
  unfold lt at *
  rw [decide_eq_true_iff] at h
  rw [decide_eq_false_iff_not]
  omega

/-- not less, and so on -/
theorem le_trans' {a b c : Frac} (ha : Red a) (hb : Red b) (hc : Red c) (h1 : lt b a = false) (h2 : lt c b = false) : lt c a = false := by
  cases q : lt c a with
  | false => rfl
  | true =>
    cases r : lt b c with
    | false =>
      have := lt_total hb hc r h2
      subst this
      rw [h1] at q
      cases q
    | true =>
      have := lt_trans hb hc ha r q
      rw [h1] at this
      cases this

theorem leastOf_fold (l : List Frac) : ∀ (m : Frac), Red m → (∀ x ∈ l, Red x) →
    let r := l.foldl (fun m x => if lt x m = true then x else m) m
    Red r ∧ (r = m ∨ r ∈ l) ∧ lt m r = false ∧ ∀ x ∈ l, lt x r = false := by
  induction l with
  | nil =>
    intro m hm _
    exact ⟨hm, .inl rfl, lt_irrefl _, fun x hx => by simp at hx⟩
  | cons a l ih =>
    intro m hm hl
    have ha := hl a List.mem_cons_self
    have hm' : Red (if lt a m = true then a else m) := by split <;> assumption
    obtain ⟨h0, h1, h2, h3⟩ := ih (if lt a m = true then a else m) hm' fun x hx => hl x (List.mem_cons_of_mem _ hx)
    rw [List.foldl_cons]
    refine ⟨h0, ?_, ?_, ?_⟩
    · rcases h1 with h1 | h1
      · rw [h1]
        split
        · exact .inr List.mem_cons_self
        · exact .inl rfl
      · exact .inr (List.mem_cons_of_mem _ h1)
    · by_cases c : lt a m = true
      · rw [if_pos c] at h2 ⊢
        rw [if_pos c] at h0
        exact le_trans' h0 ha hm h2 (lt_asymm c)
      · rw [if_neg c] at h2 ⊢
        exact h2
    · intro x hx
      rcases List.mem_cons.mp hx with rfl | hx
      · by_cases c : lt x m = true
        · rw [if_pos c] at h2 ⊢
          exact h2
        · rw [if_neg c] at h2 h0 ⊢
          exact le_trans' h0 hm ha h2 (by simpa using c)
      · exact h3 x hx

theorem leastOf_spec {l : List Frac} (hne : l ≠ []) (hl : ∀ x ∈ l, Red x) : leastOf l ∈ l ∧ ∀ x ∈ l, lt x (leastOf l) = false := by
  cases l with
  | nil => exact absurd rfl hne
  | cons a l =>
    have := leastOf_fold (a :: l) a (hl a List.mem_cons_self) hl
    refine ⟨?_, this.2.2.2⟩
    rcases this.2.1 with e | e
    · show List.foldl _ a (a :: l) ∈ a :: l
      rw [e]
      exact List.mem_cons_self
    · exact e

/-! ## The document's rounds -/
/-- a place that comes back in k steps, the least of its round -/
def Ly (g : Abs) (k : Nat) (y : Frac) : Prop := Pl g y ∧ g.back y k = true ∧ ∀ t, t < k → lt (g.after y t) y = false

theorem mem_found {g : Abs} {k : Nat} {x : Frac} : x ∈ g.found k ↔ g.back x k = true ∧ ((∃ p, p ≤ g.n ∧ x = ofNat p) ∨ ∃ i w, i < g.n ∧ w ∈ g.loopsFrom i i k ∧ x ∈ g.given w) := by
  unfold Abs.found
  rw [List.mem_filter, List.mem_append, List.mem_map, List.mem_flatMap]
  constructor
  · rintro ⟨h | h, hb⟩
    · obtain ⟨p, hp, rfl⟩ := h
      rw [List.mem_range] at hp
      exact ⟨hb, .inl ⟨p, by omega, rfl⟩⟩
    · obtain ⟨i, hi, h⟩ := h
      rw [List.mem_flatMap] at h
      obtain ⟨w, hw, hx⟩ := h
      exact ⟨hb, .inr ⟨i, w, List.mem_range.mp hi, hw, hx⟩⟩
  · rintro ⟨hb, ⟨p, hp, rfl⟩ | ⟨i, w, hi, hw, hx⟩⟩
    · exact ⟨.inl ⟨p, List.mem_range.mpr (by omega), rfl⟩, hb⟩
    · refine ⟨.inr ⟨i, List.mem_range.mpr hi, ?_⟩, hb⟩
      rw [List.mem_flatMap]
      exact ⟨w, hw, hx⟩

theorem goN_in {g : Abs} {B X : Int} (hB : 0 < B) {i : Nat} (hi : i < g.n) {r : List Nat} (h : goN g B X (i :: r)) : InL g B X := by
  obtain ⟨h1, h2, _⟩ := h
  constructor
  · have : 0 ≤ (i : Int) * B := Int.mul_nonneg (by omega) (by omega)
    omega
  · have : (i + 1 : Int) * B ≤ (g.n : Int) * B := Int.mul_le_mul_of_nonneg_right (by omega) (by omega)
    omega

theorem given_pl {g : Abs} (h : WF g) {k i : Nat} (k0 : 0 < k) (hi : i < g.n) {w : List Nat} (hw : w ∈ g.loopsFrom i i k) {x : Frac} (hx : x ∈ g.given w) : Pl g x := by
  obtain ⟨m, rfl⟩ : ∃ m, k = m + 1 := ⟨k - 1, by omega⟩
  obtain ⟨r, rfl, hr, hc⟩ := (mem_loopsFrom m i w).mp hw
  have fin : ∀ (X : Int) (B : Nat), 0 < B → x ∈ (if g.goes (red X B) (i :: r) = true then [red X B] else []) → Pl g x := by
    intro X B hB hx
    split at hx
    · rename_i c
      rw [List.mem_singleton] at hx
      subst hx
      rw [goes_red hB] at c
      exact Pl.red hB (goN_in (by omega) hi c)
    · simp at hx
  unfold Abs.given at hx
  dsimp only at hx
  split at hx
  · split at hx
    · rw [List.mem_singleton] at hx
      subst hx
      apply Pl.red (by decide)
      constructor
      · show (0 : Int) ≤ 3 * (i : Int) + 1
        omega
      · show 3 * (i : Int) + 1 ≤ (g.n : Int) * 3
        omega
    · simp at hx
  · split at hx
    · exact fin _ _ (by omega) hx
    · exact fin _ _ (by omega) hx

theorem found_pl {g : Abs} (h : WF g) {k : Nat} (k0 : 0 < k) {x : Frac} (hx : x ∈ g.found k) : Pl g x ∧ g.back x k = true := by
  obtain ⟨hb, h2⟩ := mem_found.mp hx
  refine ⟨?_, hb⟩
  rcases h2 with ⟨p, hp, rfl⟩ | ⟨i, w, hi, hw, hx⟩
  · exact ofNat_pl hp
  · exact given_pl h k0 hi hw hx

theorem after_mod {g : Abs} {x : Frac} {k : Nat} (e : g.after x k = x) : ∀ m, g.after x m = g.after x (m % k) := by
  have mul : ∀ q, g.after x (k * q) = x := fun q => by
    induction q with
    | zero => rfl
    | succ q ih => rw [Nat.mul_succ, after_add, ih, e]
  intro m
  have h := Nat.div_add_mod m k
  conv => lhs; rw [← h]
  rw [after_add, mul]

theorem back_shift {g : Abs} {x : Frac} (r : Red x) {k : Nat} (h : g.back x k = true) (m : Nat) : g.back (g.after x m) k = true := by
  rw [after_it r, back_red r.1]
  have := (back_red (g := g) (X := x.1) (k := k) r.1).mp (by rw [red_self r]; exact h)
  exact this.shift m

theorem least_Ly {g : Abs} (h : WF g) {k : Nat} {x : Frac} (p : Pl g x) (hb : g.back x k = true) : Ly g k (leastOf (g.way x k)) := by
  have hb' := back_iff.mp hb
  have hne : g.way x k ≠ [] := by
    rw [way_eq]
    intro q
    have := congrArg List.length q
    simp at this
    omega
  have hR : ∀ y ∈ g.way x k, Red y := by
    intro y hy
    rw [way_eq, List.mem_map] at hy
    obtain ⟨t, _, rfl⟩ := hy
    exact (p.after h t).1
  obtain ⟨h1, h2⟩ := leastOf_spec hne hR
  generalize leastOf (g.way x k) = y at *
  rw [way_eq, List.mem_map] at h1
  obtain ⟨m, hm, rfl⟩ := h1
  refine ⟨p.after h m, back_shift p.1 hb m, fun t _ => ?_⟩
  apply h2
  rw [way_eq, List.mem_map, ← after_add, after_mod hb'.2.1]
  exact ⟨(m + t) % k, List.mem_range.mpr (Nat.mod_lt _ hb'.1), rfl⟩

theorem least_self {g : Abs} (h : WF g) {k : Nat} {y : Frac} (l : Ly g k y) : leastOf (g.way y k) = y := by
  obtain ⟨p, hb, hl⟩ := l
  have hb' := back_iff.mp hb
  have y0 : y ∈ g.way y k := by
    rw [way_eq, List.mem_map]
    exact ⟨0, List.mem_range.mpr hb'.1, rfl⟩
  have hR : ∀ z ∈ g.way y k, Red z := by
    intro z hz
    rw [way_eq, List.mem_map] at hz
    obtain ⟨t, _, rfl⟩ := hz
    exact (p.after h t).1
  obtain ⟨h1, h2⟩ := leastOf_spec (List.ne_nil_of_mem y0) hR
  have a := h2 y y0
  have hz := hR _ h1
  rw [way_eq, List.mem_map] at h1
  obtain ⟨t, ht, e⟩ := h1
  rw [List.mem_range] at ht
  have b := hl t ht
  rw [e] at b
  rw [way_eq] at a hz ⊢
  exact lt_total hz p.1 b a

theorem Ly_found {g : Abs} (h : WF g) {k : Nat} (ne : endl g k = false) {y : Frac} (l : Ly g k y) : y ∈ g.found k := by
  obtain ⟨p, hb, _⟩ := l
  have k0 := (back_iff.mp hb).1
  rw [mem_found]
  refine ⟨hb, ?_⟩
  have hB := p.1.1
  have hB' : (0 : Int) < y.2 := by omega
  have hBk : Bk g y.2 y.1 k := (back_red hB).mp (by rw [red_self p.1]; exact hb)
  by_cases hn : y.1 % (y.2 : Int) = 0
  · left
    obtain ⟨q, hq⟩ := Int.dvd_of_emod_eq_zero hn
    have i := p.2
    rw [hq] at i
    have q0 : 0 ≤ q := by
      false_or_by_contra
      have := Int.mul_neg_of_pos_of_neg hB' (show q < 0 by omega)
      have := i.1
      omega
    obtain ⟨q, rfl⟩ := Int.eq_ofNat_of_zero_le q0
    refine ⟨q, ?_, ?_⟩
    · have := i.2
      rw [Int.mul_comm] at this
      have := Int.le_of_mul_le_mul_right this hB'
      omega
    · rw [← red_self p.1, ofNat_red, red_eq hB (by decide), hq, Int.mul_comm]
      simp [Int.mul_comm]
  · right
    obtain ⟨m, hm, hw, a1⟩ := walk_there h k0 ne hB p.2 hBk hn
    -- the factor of the walk, turned, is the same
    have a0 : (g.along (itn g y.2 y.1 k)).1 ≠ 1 := by
      rw [← rt_itn hBk.2.1 m (by omega)] at a1
      unfold rt at a1
      rw [along_append] at a1
      dsimp only at a1
      intro e
      apply a1
      rw [← List.take_append_drop m (itn g y.2 y.1 k), along_append] at e
      dsimp only at e
      rw [Int.mul_comm]
      exact e
    have f := fx_itn h hB' p.2 hn k0 hBk.2.1 a0
    obtain ⟨k', rfl⟩ : ∃ k', k = k' + 1 := ⟨k - 1, by omega⟩
    have hc := cov_itn h hB' k' y.1 p.2 fun t _ => NI.it k0 hBk.2.1 hn t
    rw [hBk.2.1] at hc
    refine ⟨pc g y.2 y.1, itn g y.2 y.1 (k' + 1), pc_lt h _ _, (mem_loopsFrom k' _ _).mpr ⟨_, rfl, itn_length _ _ _ _, hc⟩, ?_⟩
    have go := f.go h hB'
    have fx := f.fix
    rw [alN_eq] at fx
    generalize itn g y.2 y.1 (k' + 1) = w at *
    unfold Abs.given
    dsimp only
    generalize (g.along w).1 = a at *
    generalize (g.along w).2 = b at *
    rw [if_neg a0]
    have ex : (if a < 1 then red b (1 - a).toNat else red (-b) (a - 1).toNat) = y := by
      split
      · rw [← red_self p.1, red_eq (by omega) hB]
        have : (((1 - a).toNat : Nat) : Int) = 1 - a := by omega
        rw [this]
        grind
      · rw [← red_self p.1, red_eq (by omega) hB]
        have : (((a - 1).toNat : Nat) : Int) = a - 1 := by omega
        rw [this]
        grind
    rw [ex]
    have gg : g.goes y w = true := by
      have := (goes_red (g := g) hB w y.1).mpr go
      rwa [red_self p.1] at this
    rw [if_pos gg]
    exact List.mem_singleton.mpr rfl

/-! ### in order -/
theorem mem_merged : ∀ (f : Nat) (a b : List Frac) (x : Frac), x ∈ merged f a b ↔ x ∈ a ∨ x ∈ b
  | 0, a, b, x => by
    show x ∈ a ++ b ↔ _
    exact List.mem_append
  | f + 1, [], b, x => by
    show x ∈ b ↔ _
    simp
  | f + 1, y :: a, [], x => by
    show x ∈ y :: a ↔ _
    simp
  | f + 1, y :: a, z :: b, x => by
    show x ∈ (if le z y = true then y :: merged f a (z :: b) else z :: merged f (y :: a) b) ↔ _
    split
    · rw [List.mem_cons, mem_merged f a (z :: b)]
      simp only [List.mem_cons]
      grind
    · rw [List.mem_cons, mem_merged f (y :: a) b]
      simp only [List.mem_cons]
      grind

theorem mem_falling : ∀ (f : Nat) (l : List Frac) (x : Frac), x ∈ falling f l ↔ x ∈ l
  | 0, l, x => Iff.rfl
  | f + 1, l, x => by
    unfold falling
    split
    · exact Iff.rfl
    · rw [mem_merged, mem_falling f, mem_falling f]
      conv => rhs; rw [← List.take_append_drop (l.length / 2) l, List.mem_append]

def Srt (l : List Frac) : Prop := l.Pairwise fun a b => lt a b = true

theorem mem_insert {x y : Frac} : ∀ {l : List Frac}, y ∈ insert_ x l ↔ y = x ∨ y ∈ l
  | [] => by
    unfold insert_
    simp
  | z :: l => by
    unfold insert_
    split
    · rename_i e
      subst e
      simp
    · split
      · simp
      · rw [List.mem_cons, mem_insert (l := l), List.mem_cons]
        grind

theorem insert_srt {x : Frac} (hx : Red x) : ∀ {l : List Frac}, (∀ y ∈ l, Red y) → Srt l → Srt (insert_ x l)
  | [], _, _ => by
    unfold insert_ Srt
    simp
  | z :: l, hl, hs => by
    have hz := hl z List.mem_cons_self
    unfold Srt at *
    unfold insert_
    split
    · exact hs
    · rename_i ne
      rw [List.pairwise_cons] at hs
      split
      · rename_i c
        rw [List.pairwise_cons, List.pairwise_cons]
        refine ⟨fun y hy => ?_, hs⟩
        rcases List.mem_cons.mp hy with rfl | hy
        · exact c
        · exact lt_trans hx hz (hl y (List.mem_cons_of_mem _ hy)) c (hs.1 y hy)
      · rename_i c
        rw [List.pairwise_cons]
        refine ⟨fun y hy => ?_, insert_srt hx (fun y hy => hl y (List.mem_cons_of_mem _ hy)) hs.2⟩
        rcases mem_insert.mp hy with rfl | hy
        · cases q : lt z y with
          | true => rfl
          | false => exact absurd (lt_total hx hz (by simpa using c) q) ne
        · exact hs.1 y hy

theorem fold_insert : ∀ (l s : List Frac), (∀ x ∈ l, Red x) → (∀ x ∈ s, Red x) → Srt s →
    Srt (l.foldl (fun s x => insert_ x s) s) ∧ ∀ y, y ∈ l.foldl (fun s x => insert_ x s) s ↔ y ∈ l ∨ y ∈ s
  | [], s, _, _, hs => ⟨hs, fun y => by simp⟩
  | x :: l, s, hl, hr, hs => by
    rw [List.foldl_cons]
    have hx := hl x List.mem_cons_self
    obtain ⟨h1, h2⟩ := fold_insert l (insert_ x s) (fun y hy => hl y (List.mem_cons_of_mem _ hy)) (fun y hy => by
      rcases mem_insert.mp hy with rfl | hy
      · exact hx
      · exact hr y hy) (insert_srt hx hr hs)
    refine ⟨h1, fun y => ?_⟩
    rw [h2, mem_insert, List.mem_cons]
    grind

theorem mem_leasts {g : Abs} (h : WF g) {k : Nat} (k0 : 0 < k) (ne : endl g k = false) {y : Frac} : y ∈ g.leasts k ↔ Ly g k y := by
  unfold Abs.leasts
  dsimp only
  rw [mem_falling, List.mem_map]
  constructor
  · rintro ⟨x, hx, rfl⟩
    obtain ⟨p, hb⟩ := found_pl h k0 hx
    exact least_Ly h p hb
  · intro l
    exact ⟨y, Ly_found h ne l, least_self h l⟩

theorem rounds_spec {g : Abs} (h : WF g) {k : Nat} (k0 : 0 < k) (ne : endl g k = false) : Srt (g.rounds k) ∧ ∀ y, y ∈ g.rounds k ↔ Ly g k y := by
  unfold Abs.rounds
  have hl : ∀ x ∈ g.leasts k, Red x := fun x hx => ((mem_leasts h k0 ne).mp hx).1.1
  obtain ⟨h1, h2⟩ := fold_insert (g.leasts k) [] hl (fun x hx => by simp at hx) (by unfold Srt; simp)
  refine ⟨h1, fun y => ?_⟩
  rw [h2, mem_leasts h k0 ne]
  simp

/-- two rows in strict order, of the same -/
theorem srt_eq : ∀ (a b : List Frac), (∀ x ∈ a, Red x) → (∀ x ∈ b, Red x) → Srt a → Srt b → (∀ y, y ∈ a ↔ y ∈ b) → a = b
  | [], [], _, _, _, _, _ => rfl
  | [], y :: b, _, _, _, _, m => by
    have := (m y).mpr List.mem_cons_self
    simp at this
  | x :: a, [], _, _, _, _, m => by
    have := (m x).mp List.mem_cons_self
    simp at this
  | x :: a, y :: b, ha, hb, sa, sb, m => by
    unfold Srt at *
    rw [List.pairwise_cons] at sa sb
    have e : x = y := by
      have m1 := (m x).mp List.mem_cons_self
      have m2 := (m y).mpr List.mem_cons_self
      rcases List.mem_cons.mp m1 with e | m1
      · exact e
      · rcases List.mem_cons.mp m2 with e | m2
        · exact e.symm
        · have q1 := sb.1 x m1
          have q2 := sa.1 y m2
          have := lt_asymm q1
          rw [q2] at this
          cases this
    subst e
    congr 1
    apply srt_eq a b (fun z hz => ha z (List.mem_cons_of_mem _ hz)) (fun z hz => hb z (List.mem_cons_of_mem _ hz)) sa.2 sb.2
    intro y
    constructor
    · intro hy
      rcases List.mem_cons.mp ((m y).mp (List.mem_cons_of_mem _ hy)) with rfl | q
      · have := sa.1 y hy
        rw [lt_irrefl] at this
        cases this
      · exact q
    · intro hy
      rcases List.mem_cons.mp ((m y).mpr (List.mem_cons_of_mem _ hy)) with rfl | q
      · have := sb.1 y hy
        rw [lt_irrefl] at this
        cases this
      · exact q

/-- what the keys are for -/
theorem key_lt {g : Abs} {k : Nat} (k0 : 0 < k) (k6 : k ≤ 6) {r s : Rd} (hr : Rnd g k r) (hs : Rnd g k s) (c : lt (fr s) (fr r) = true) : keyOf s < keyOf r := by
  obtain ⟨X, B, hB, hB2, rfl, _⟩ := hr
  obtain ⟨Y, C, hC, hC2, rfl, _⟩ := hs
  rw [fr_of k0, fr_of k0] at c
  have c' : lt (red Y C) (red X B) = true := c
  rw [red_lt hC hB, decide_eq_true_iff] at c'
  unfold keyOf
  dsimp only
  rw [headD_range k0, headD_range k0]
  show Y * SCALE / (C : Int) < X * SCALE / (B : Int)
  have p6 : 6 ^ k ≤ 46656 := by
    have : 6 ^ k ≤ 6 ^ 6 := Nat.pow_le_pow_right (by decide) k6
    exact this
  have bc : (B : Int) * C ≤ SCALE := by
    have q : B * C ≤ 46657 * 46657 := Nat.mul_le_mul (by omega) (by omega)
    have q2 : ((B * C : Nat) : Int) = (B : Int) * C := by push_cast; rfl
    unfold SCALE
    omega
  have d1 : Y * SCALE / (C : Int) * C ≤ Y * SCALE := Int.ediv_mul_le _ (by omega)
  generalize Y * SCALE / (C : Int) = q at *
  have s0 : 0 < SCALE := by decide
  have m1 := Int.mul_le_mul_of_nonneg_right d1 (show (0 : Int) ≤ B by omega)
  have m2 := Int.mul_le_mul_of_nonneg_right (show Y * (B : Int) + 1 ≤ X * C by omega) (show 0 ≤ SCALE by omega)
  -- (q + 1) B C <= X SCALE C
  have m3 : (q + 1) * B * C ≤ X * SCALE * C := by
    have e1 : (q + 1) * B * C = q * C * B + B * C := by grind
    have e2 : (Y * B + 1) * SCALE = Y * SCALE * B + SCALE := by grind
    have e3 : X * C * SCALE = X * SCALE * C := by grind
    omega
  have m4 := Int.le_of_mul_le_mul_right m3 (show (0 : Int) < C by omega)
  have m5 := (Int.le_ediv_iff_mul_le (show (0 : Int) < B by omega)).mpr m4
  omega

/-- the program's rounds, in order, are the document's -/
theorem rounds_eq {g : Abs} (h : WF g) {k : Nat} (k0 : 0 < k) (k6 : k ≤ 6) (ne : endl g k = false) {ys : List Rd} (perm : ys.Perm (someR g k)) (hs : ys.Pairwise fun a b => keyOf a ≤ keyOf b) : ys.map fr = g.rounds k := by
  obtain ⟨s1, s2⟩ := rounds_spec h k0 ne
  have hR : ∀ r ∈ ys, Rnd g k r := fun r hr => rnd_of h k0 ne (perm.mem_iff.mp hr)
  have ly : ∀ r, Rnd g k r → Ly g k (fr r) := by
    rintro r ⟨X, B, hB, hB2, rfl, hX, hb, hl⟩
    rw [fr_of k0]
    show Ly g k (red X B)
    refine ⟨Pl.red hB hX, (back_red hB).mpr hb, fun t ht => ?_⟩
    rw [after_red hB, red_lt hB hB, decide_eq_false_iff_not]
    have := Int.mul_le_mul_of_nonneg_right (hl t ht) (show (0 : Int) ≤ B by omega)
    omega
  have hm : ∀ y, y ∈ ys.map fr ↔ Ly g k y := by
    intro y
    rw [List.mem_map]
    constructor
    · rintro ⟨r, hr, rfl⟩
      exact ly r (hR r hr)
    · rintro ⟨p, hb, hl⟩
      have hB := p.1.1
      have hBk : Bk g y.2 y.1 k := (back_red hB).mp (by rw [red_self p.1]; exact hb)
      obtain ⟨r, hr, e⟩ := all_there h k0 ne hB p.2 hBk fun t ht => by
        have := hl t ht
        rw [after_it p.1] at this
        conv at this => lhs; arg 2; rw [← red_self p.1]
        rw [red_lt hB hB, decide_eq_false_iff_not] at this
        false_or_by_contra
        rename_i c
        exact this (Int.mul_lt_mul_of_pos_right (by omega) (by omega))
      exact ⟨r, perm.mem_iff.mpr hr, by rw [e, red_self p.1]⟩
  apply srt_eq _ _ (fun y hy => ((hm y).mp hy).1.1) (fun y hy => ((s2 y).mp hy).1.1) ?_ s1 (fun y => by rw [hm, s2])
  have nd : (ys.map fr).Nodup := (perm.map fr).nodup_iff.mpr (nodup_fr h k0 ne)
  unfold Srt
  unfold List.Nodup at nd
  rw [List.pairwise_map] at nd ⊢
  apply List.Pairwise.imp_of_mem ?_ (hs.and nd)
  rintro r s hr hs' ⟨q1, q2⟩
  have a := ly r (hR r hr)
  have b := ly s (hR s hs')
  cases c : lt (fr r) (fr s) with
  | true => rfl
  | false =>
    cases c2 : lt (fr s) (fr r) with
    | true =>
      have := key_lt k0 k6 (hR r hr) (hR s hs') c2
      omega
    | false => exact absurd (lt_total a.1.1 b.1.1 c c2) q2

theorem rnd_way {g : Abs} {k : Nat} (k0 : 0 < k) {r : Rd} (hr : Rnd g k r) : g.way (fr r) k = r.1.map fun a => red a r.2.toNat := by
  obtain ⟨X, B, hB, hB2, rfl, hX, hb, hl⟩ := hr
  rw [fr_of k0]
  show g.way (red X B) k = _
  rw [way_red hB, List.map_map]
  rfl

theorem rnd_type {g : Abs} {k : Nat} (k0 : 0 < k) {r : Rd} (hr : Rnd g k r) : g.type (fr r) k = r.1.map fun a => (r.1.filter fun b => decide (b < a)).length := by
  have hw := rnd_way k0 hr
  obtain ⟨X, B, hB, hB2, e, hX, hb, hl⟩ := hr
  unfold Abs.type
  rw [hw, List.map_map]
  apply List.map_congr_left
  intro a _
  show (List.filter (fun z => lt z (red a r.2.toNat)) (r.1.map fun a => red a r.2.toNat)).length = _
  rw [List.filter_map, List.length_map]
  congr 1
  apply List.filter_congr
  intro b _
  show lt (red b r.2.toNat) (red a r.2.toNat) = _
  have hB' : 0 < r.2.toNat := by
    rw [e]
    simpa using hB
  rw [red_lt hB' hB']
  apply decide_eq_decide.mpr
  constructor
  · intro q
    exact Int.lt_of_mul_lt_mul_right q (by omega)
  · intro q
    exact Int.mul_lt_mul_of_pos_right q (by omega)

theorem has_endl {g : Abs} (h : WF g) {k : Nat} (k0 : 0 < k) (e : endl g k = true) : g.has k = true := by
  have q := (endless_iff h k0).mpr e
  unfold Abs.endless at q
  rw [List.any_eq_true] at q
  obtain ⟨i, hi, q⟩ := q
  rw [List.mem_range] at hi
  rw [List.any_eq_true] at q
  obtain ⟨w, hw, q⟩ := q
  rw [Bool.and_eq_true, beq_iff_eq] at q
  obtain ⟨m, rfl⟩ : ∃ m, k = m + 1 := ⟨k - 1, by omega⟩
  obtain ⟨r, rfl, hr, hc⟩ := (mem_loopsFrom m i w).mp hw
  have hx : red (3 * (i : Int) + 1) 3 ∈ g.found (m + 1) := by
    rw [mem_found]
    refine ⟨q.2, .inr ⟨i, i :: r, hi, hw, ?_⟩⟩
    unfold Abs.given
    dsimp only
    rw [q.1]
    simp
  unfold Abs.has
  cases e : g.found (m + 1) with
  | nil =>
    rw [e] at hx
    simp at hx
  | cons a l => rfl

theorem has_eq {g : Abs} (h : WF g) {k : Nat} (k0 : 0 < k) (ne : endl g k = false) : g.has k = !(someR g k).isEmpty := by
  have a : (g.found k = []) ↔ (someR g k = []) := by
    constructor
    · intro e
      cases q : someR g k with
      | nil => rfl
      | cons r l =>
        exfalso
        have hr := rnd_of h k0 ne (r := r) (by rw [q]; exact List.mem_cons_self)
        obtain ⟨X, B, hB, hB2, rfl, hX, hb, hl⟩ := hr
        have ly : Ly g k (red X B) := by
          refine ⟨Pl.red hB hX, (back_red hB).mpr hb, fun t ht => ?_⟩
          rw [after_red hB, red_lt hB hB, decide_eq_false_iff_not]
          have := Int.mul_le_mul_of_nonneg_right (hl t ht) (show (0 : Int) ≤ B by omega)
          omega
        have := Ly_found h ne ly
        rw [e] at this
        simp at this
    · intro e
      cases q : g.found k with
      | nil => rfl
      | cons x l =>
        exfalso
        obtain ⟨p, hb⟩ := found_pl h k0 (x := x) (by rw [q]; exact List.mem_cons_self)
        obtain ⟨p, hb, hl⟩ := least_Ly h p hb
        generalize leastOf (g.way x k) = y at *
        have hB := p.1.1
        have hBk : Bk g y.2 y.1 k := (back_red hB).mp (by rw [red_self p.1]; exact hb)
        obtain ⟨r, hr, _⟩ := all_there h k0 ne hB p.2 hBk fun t ht => by
          have := hl t ht
          rw [after_it p.1] at this
          conv at this => lhs; arg 2; rw [← red_self p.1]
          rw [red_lt hB hB, decide_eq_false_iff_not] at this
          false_or_by_contra
          rename_i c
          exact this (Int.mul_lt_mul_of_pos_right (by omega) (by omega))
        rw [e] at hr
        simp at hr
  unfold Abs.has
  cases q : g.found k with
  | nil => rw [a.mp q]; rfl
  | cons x l =>
    cases q2 : someR g k with
    | nil =>
      rw [a.mpr q2] at q
      cases q
    | cons r s => rfl

end FL

namespace FL
open Su183

theorem Fn_point {g : Abs} (h : WF g) {p : Nat} (hp : p ≤ g.n) : Fn g 1 p = g.point p := by
  have h0 := h.pos
  by_cases c : p < g.n
  · rw [Fn_piece h c (by decide) (by omega) (by omega), Lp_mix]
    have e : (p : Int) - p * 1 = 0 := by omega
    rw [e]
    omega
  · have e : p = g.n := by omega
    subst e
    obtain ⟨m, hm⟩ : ∃ m, g.n = m + 1 := ⟨g.n - 1, by omega⟩
    rw [Fn_piece h (j := m) (by omega) (by decide) (by omega) (by omega), Lp_mix, hm]
    have e : ((m + 1 : Nat) : Int) - m * 1 = 1 := by omega
    rw [e]
    omega

theorem div_in {g : Abs} {x : Frac} (p : Pl g x) : 0 ≤ x.1 / (x.2 : Int) ∧ x.1 / (x.2 : Int) * x.2 ≤ x.1 ∧ x.1 < (x.1 / (x.2 : Int) + 1) * x.2 := by
  have hB : (0 : Int) < x.2 := by have := p.1.1; omega
  exact ⟨Int.ediv_nonneg p.2.1 (by omega), Int.ediv_mul_le _ (by omega), Int.lt_ediv_add_one_mul_self _ hB⟩

theorem put_point {g : Abs} (h : WF g) {x : Frac} (p : Pl g x) (e : x.1 / (x.2 : Int) * x.2 = x.1) :
    (x.1 / (x.2 : Int)).toNat ≤ g.n ∧ g.put x = ((g.point (x.1 / (x.2 : Int)).toNat : Int), 1) := by
  obtain ⟨d0, _, _⟩ := div_in p
  obtain ⟨q, hq⟩ := Int.eq_ofNat_of_zero_le d0
  have hB := p.1.1
  rw [hq] at e ⊢
  have hqn : q ≤ g.n := by
    have := p.2.2
    rw [← e] at this
    have := Int.le_of_mul_le_mul_right this (show (0 : Int) < x.2 by omega)
    omega
  have ex : x = red (q : Int) 1 := by
    rw [← red_self p.1, red_eq hB (by decide), ← e]
    simp
  refine ⟨by simpa using hqn, ?_⟩
  rw [ex, put_red (by decide)]
  show red (Fn g 1 q) 1 = _
  rw [Fn_point h hqn, red_one]
  simp

theorem put_between {g : Abs} (h : WF g) {x : Frac} (p : Pl g x) (ne : x.1 / (x.2 : Int) * x.2 ≠ x.1) :
    (x.1 / (x.2 : Int)).toNat < g.n ∧ 0 ≤ (g.point (x.1 / (x.2 : Int)).toNat : Int) * x.2 + (x.1 - x.1 / (x.2 : Int) * x.2) * g.slope (x.1 / (x.2 : Int)).toNat ∧
      g.put x = red ((g.point (x.1 / (x.2 : Int)).toNat : Int) * x.2 + (x.1 - x.1 / (x.2 : Int) * x.2) * g.slope (x.1 / (x.2 : Int)).toNat) x.2 := by
  obtain ⟨d0, d1, d2⟩ := div_in p
  obtain ⟨q, hq⟩ := Int.eq_ofNat_of_zero_le d0
  have hB := p.1.1
  rw [hq] at ne d1 d2 ⊢
  have hqn : q < g.n := by
    have := p.2.2
    have : (q : Int) * x.2 < g.n * x.2 := by omega
    have := Int.lt_of_mul_lt_mul_right this (by omega)
    omega
  have ef : Fn g x.2 x.1 = (g.point q : Int) * x.2 + (x.1 - q * x.2) * g.slope q := by
    rw [Fn_piece h hqn (by omega) d1 (by omega)]
    unfold Lp
    rw [Int.mul_comm (g.slope q)]
  have hin := Fn_in h (show (0 : Int) < x.2 by omega) p.2
  rw [ef] at hin
  refine ⟨by simpa using hqn, ?_, ?_⟩
  · simpa using hin.1
  · rw [put_Red p.1, ef]
    simp

/-- below numbers of what comes divide -/
theorem put_below {g : Abs} {x : Frac} (r : Red x) : (g.put x).2 ≤ x.2 := by
  rw [put_Red r]
  unfold red
  exact Nat.div_le_self _ _

theorem after_below {g : Abs} (h : WF g) {x : Frac} (p : Pl g x) : ∀ k, (g.after x k).2 ≤ x.2
  | 0 => Nat.le_refl _
  | k + 1 => by
    rw [after_succ']
    exact Nat.le_trans (put_below (p.after h k).1) (after_below h p k)

theorem way_succ (g : Abs) (x : Frac) (k : Nat) : g.way x (k + 1) = g.way x k ++ [g.after x k] := by
  rw [way_eq, way_eq, List.range_succ, List.map_append]
  rfl

theorem way_length (g : Abs) (x : Frac) (k : Nat) : (g.way x k).length = k := by
  rw [way_eq]
  simp

/-! ## Turned about -/
theorem turned_to {g : Abs} (h : WF g) : g.turned.to = g.to.reverse.map fun v => g.n - v := by
  unfold Abs.turned
  dsimp only
  apply List.ext_getElem
  · simp [h.len]
  · intro i h1 h2
    simp at h1 h2
    rw [List.getElem_map, List.getElem_map, List.getElem_range, List.getElem_reverse]
    unfold Abs.point
    have hl := h.len
    have e : g.n - i = g.to.length - 1 - i := by omega
    rw [e, List.getD_eq_getElem?_getD, List.getElem?_eq_getElem (by omega)]
    rfl

theorem turned_wf {g : Abs} (h : WF g) : WF g.turned := by
  refine ⟨?_, h.pos, h.six, ?_⟩
  · rw [turned_to h]
    simp
    exact h.len
  · intro v hv
    rw [turned_to h] at hv
    simp at hv
    obtain ⟨u, _, rfl⟩ := hv
    show g.n - u ≤ g.n
    omega

theorem new_wf {n : Nat} (h1 : 1 ≤ n) (h6 : n ≤ 6) : WF (new n) := by
  refine ⟨by unfold new; simp, h1, h6, fun v hv => ?_⟩
  unfold new at hv
  have hv' : v ∈ List.range (n + 1) := hv
  rw [List.mem_range] at hv'
  show v ≤ n
  omega

theorem set_wf {g : Abs} (h : WF g) {i v : Nat} (hv : v ≤ g.n) : WF { g with to := g.to.set i v } := by
  refine ⟨by show (g.to.set i v).length = g.n + 1; rw [List.length_set, h.len], h.pos, h.six, fun u hu => ?_⟩
  rcases List.mem_or_eq_of_mem_set hu with q | q
  · exact h.all u q
  · subst q
    exact hv

theorem row_wf {g : Abs} (h : WF g) {l : List Nat} (hl : l.length = g.n + 1) (hv : ∀ v ∈ l, v ≤ g.n) : WF { g with to := l } := ⟨hl, h.pos, h.six, hv⟩

/-! ## The strange order -/
theorem twos_spec : ∀ (f k : Nat), k ≤ f → 0 < k → 2 ^ twos f k ∣ k ∧ (k / 2 ^ twos f k) % 2 = 1
  | 0, k, h, h0 => by omega
  | f + 1, k, h, h0 => by
    unfold twos
    by_cases c : k % 2 = 0 ∧ 0 < k
    · rw [if_pos c]
      obtain ⟨i1, i2⟩ := twos_spec f (k / 2) (by omega) (by omega)
      have e : k = 2 * (k / 2) := by omega
      rw [Nat.pow_succ]
      constructor
      · obtain ⟨q, hq⟩ := i1
        refine ⟨q, ?_⟩
        rw [Nat.mul_comm (2 ^ _) 2, Nat.mul_assoc, ← hq]
        exact e
      · rw [Nat.mul_comm (2 ^ _) 2, ← Nat.div_div_eq_div_mul]
        exact i2
    · rw [if_neg c]
      simp
      omega

/-- the program's loop: halves while it can -/
theorem parted_unique {k e o : Nat} (h0 : 0 < k) (h : k = 2 ^ e * o) (ho : o % 2 = 1) : e = twos k k ∧ o = oddPart k := by
  obtain ⟨⟨q, hq⟩, h2⟩ := twos_spec k k (Nat.le_refl _) h0
  have hp : 0 < 2 ^ twos k k := Nat.pow_pos (by decide)
  have eq : k / 2 ^ twos k k = q := by
    conv => lhs; lhs; rw [hq]
    exact Nat.mul_div_cancel_left _ hp
  have key : ∀ (a b x y : Nat), 2 ^ a * x = 2 ^ b * y → x % 2 = 1 → y % 2 = 1 → a = b ∧ x = y := by
    intro a
    induction a with
    | zero =>
      intro b x y e hx hy
      cases b with
      | zero => simpa using e
      | succ b =>
        exfalso
        rw [Nat.pow_succ, Nat.mul_comm (2 ^ b) 2, Nat.mul_assoc] at e
        simp at e
        omega
    | succ a ih =>
      intro b x y e hx hy
      cases b with
      | zero =>
        exfalso
        rw [Nat.pow_succ, Nat.mul_comm (2 ^ a) 2, Nat.mul_assoc] at e
        simp at e
        omega
      | succ b =>
        rw [Nat.pow_succ, Nat.pow_succ, Nat.mul_comm (2 ^ a) 2, Nat.mul_comm (2 ^ b) 2, Nat.mul_assoc, Nat.mul_assoc] at e
        have e2 := Nat.eq_of_mul_eq_mul_left (by decide) e
        obtain ⟨h1, h2⟩ := ih b x y e2 hx hy
        exact ⟨by omega, h2⟩
  unfold oddPart
  rw [eq]
  rw [eq] at h2
  exact key e _ o q (h.symm.trans hq) ho h2

theorem pow_lt_iff (a b : Nat) : 2 ^ a < 2 ^ b ↔ a < b := Nat.pow_lt_pow_iff_right (by decide)
theorem pow_eq_iff (a b : Nat) : 2 ^ a = 2 ^ b ↔ a = b := by
  constructor
  · intro h
    have h1 := (pow_lt_iff a b)
    have h2 := (pow_lt_iff b a)
    omega
  · intro h
    rw [h]

end FL

namespace FW
open PySem PySem.Spec PyProof.Rows L2
def top (i : Nat) : Stmt := PySem.Challenge.pw_foldedline_s01_answers.main.body.getD i (.Pass ⟨0, 0, 0, 0⟩)
abbrev s_divisor_of : Stmt := top 1
abbrev s_fraction : Stmt := top 2
abbrev s_parted : Stmt := top 6
abbrev s_brings : Stmt := top 7
abbrev s_longer_walks : Stmt := top 11
abbrev s_is_least_turn : Stmt := top 12
abbrev s_closed_walks : Stmt := top 13
abbrev s_factor_and_more : Stmt := top 14
abbrev s_round_of : Stmt := top 15
abbrev s_from_least : Stmt := top 16
abbrev s_point_rounds : Stmt := top 17
abbrev s_steps_of_all : Stmt := top 18
abbrev s_is_endless : Stmt := top 19
abbrev s_key_of : Stmt := top 20
abbrev s_all_rounds : Stmt := top 21
abbrev s_has_round : Stmt := top 22
abbrev s_want : Stmt := top 34
abbrev s_want_steps : Stmt := top 35
abbrev s_ranks_of : Stmt := top 36
abbrev s_do_brings : Stmt := top 37
abbrev s_of_line : Stmt := top 42
abbrev s_of_rounds : Stmt := top 43
abbrev s_told : Stmt := top 44
abbrev s_answered : Stmt := top 45
abbrev s_answers : Stmt := top 46
abbrev s_l_init : Stmt := inClass (top 4) 0
abbrev s_l_many : Stmt := inClass (top 4) 1
abbrev s_l_slope : Stmt := inClass (top 4) 2
abbrev s_l_covers : Stmt := inClass (top 4) 3
abbrev s_l_covered : Stmt := inClass (top 4) 4
abbrev s_l_put : Stmt := inClass (top 4) 5
abbrev s_l_way : Stmt := inClass (top 4) 6
abbrev s_l_comes : Stmt := inClass (top 4) 7
abbrev s_l_turned : Stmt := inClass (top 4) 8
abbrev s_d_init : Stmt := inClass (top 38) 0
abbrev s_d_line : Stmt := inClass (top 38) 1
abbrev s_d_begin : Stmt := inClass (top 38) 2
abbrev s_d_set_point : Stmt := inClass (top 38) 3
abbrev s_d_set_row : Stmt := inClass (top 38) 4
abbrev s_d_place : Stmt := inClass (top 38) 5
abbrev s_d_want_piece : Stmt := inClass (top 38) 6
abbrev s_d_put : Stmt := inClass (top 38) 7
abbrev s_d_way : Stmt := inClass (top 38) 8
abbrev s_d_comes : Stmt := inClass (top 38) 9
abbrev s_d_covers : Stmt := inClass (top 38) 10
abbrev s_d_has : Stmt := inClass (top 38) 11
abbrev s_d_which : Stmt := inClass (top 38) 12
abbrev s_d_rounds_of : Stmt := inClass (top 38) 13
abbrev s_d_rounds : Stmt := inClass (top 38) 14
abbrev s_d_round_at : Stmt := inClass (top 38) 15
abbrev s_d_round : Stmt := inClass (top 38) 16
abbrev s_d_type_of : Stmt := inClass (top 38) 17
abbrev s_d_slope : Stmt := inClass (top 38) 18
abbrev s_d_turn : Stmt := inClass (top 38) 19
abbrev s_d_state : Stmt := inClass (top 38) 20
abbrev s_r_init : Stmt := inClass (top 33) 0
/-- a def: where it stands, what it is -/
structure Df where
  a : Addr
  d : FuncData
structure Ad where
  cL : Addr
  cD : Addr
  cR : Addr
  nums : Addr
  divisor_of : Df
  fraction : Df
  parted : Df
  brings : Df
  longer_walks : Df
  is_least_turn : Df
  closed_walks : Df
  factor_and_more : Df
  round_of : Df
  from_least : Df
  point_rounds : Df
  steps_of_all : Df
  is_endless : Df
  key_of : Df
  all_rounds : Df
  has_round : Df
  want : Df
  want_steps : Df
  ranks_of : Df
  do_brings : Df
  of_line : Df
  of_rounds : Df
  told : Df
  answered : Df
  answers : Df
  l_init : Df
  l_many : Df
  l_slope : Df
  l_covers : Df
  l_covered : Df
  l_put : Df
  l_way : Df
  l_comes : Df
  l_turned : Df
  d_init : Df
  d_line : Df
  d_begin : Df
  d_set_point : Df
  d_set_row : Df
  d_place : Df
  d_want_piece : Df
  d_put : Df
  d_way : Df
  d_comes : Df
  d_covers : Df
  d_has : Df
  d_which : Df
  d_rounds_of : Df
  d_rounds : Df
  d_round_at : Df
  d_round : Df
  d_type_of : Df
  d_slope : Df
  d_turn : Df
  d_state : Df
  r_init : Df
structure Gf (K : PySem.W.Frag) (mg : Str → Option Value) (x : Str) (st : Stmt) (ps : List Str) (f : Df) : Prop where
  mg : mg x = some (.ref f.a)
  fn : Fun K x x st f.a f.d
  b : Binds K f.d ps []
structure Mf (K : PySem.W.Frag) (C : Addr) (x qual : Str) (st : Stmt) (ps : List Str) (f : Df) : Prop where
  m : Meth K C x f.a
  fn : Fun K x qual st f.a f.d
  b : Binds K f.d ps []
structure Txt (K : PySem.W.Frag) (mg : Str → Option Value) (A : Ad) : Prop where
  clL : Cls K A.cL
  clD : Cls K A.cD
  mkL : Mk K A.cL A.l_init.a
  mkD : Mk K A.cD A.d_init.a
  gL : mg "Line" = some (.ref A.cL)
  gD : mg "Desk" = some (.ref A.cD)
  gR : mg "Refused" = some (.ref A.cR)
  nPoints : NoAttr K A.cL "points"
  nFound : NoAttr K A.cL "found"
  nOwn : NoAttr K A.cD "own"
  oR : OexC K A.cR
  iR : PySem.W.findIn K (.ref A.cR) "__init__" = some (some (.ref A.r_init.a))
  tR : PySem.W.typeIn K (.ref A.r_init.a) = some (.type "function")
  xR : XfC K A.cR
  noR : PySem.W.findIn K (.ref A.cR) "refusal" = some none
  eR : PySem.W.exmOne K (.ref A.cR) (.ref A.cR) = some true
  vV : PySem.W.findCls K (.type "ValueError") (.type "type") "__init__" = some (.val (.builtin "ValueError.__init__"))
  fnR : Fun K "__init__" "Refused.__init__" s_r_init A.r_init.a A.r_init.d
  bR : Binds K A.r_init.d ["self", "refusal"] []
  gN : mg "NUMBERS" = some (.ref A.nums)
  tN : ∀ H, SqT K H A.nums ([1, 2, 0, 2, 3, 2, 2, 1, 0, 1, 2, 2, 2, 1, 0, 0].map V.int)
  b_len : mg "len" = none
  b_range : mg "range" = none
  b_min : mg "min" = none
  b_max : mg "max" = none
  b_all : mg "all" = none
  b_any : mg "any" = none
  b_sorted : mg "sorted" = none
  b_int : mg "int" = none
  b_list : mg "list" = none
  b_ValueError : mg "ValueError" = none
  c_MOST_STEPS : ∃ t, mg "MOST_STEPS" = some (.int 6 t)
  c_SCALE : ∃ t, mg "SCALE" = some (.int 1000000000000 t)
  c_NO_SUCH : ∃ t, mg "NO_SUCH" = some (.int (-2) t)
  c_NOT_BEGUN : ∃ t, mg "NOT_BEGUN" = some (.int (-11) t)
  c_NOT_AS_TOLD : ∃ t, mg "NOT_AS_TOLD" = some (.int (-22) t)
  c_NO_MORE : ∃ t, mg "NO_MORE" = some (.int (-33) t)
  c_ENDLESS : ∃ t, mg "ENDLESS" = some (.int (-75) t)
  c_MOST_PIECES : ∃ t, mg "MOST_PIECES" = some (.int 6 t)
  c_MOST_BELOW : ∃ t, mg "MOST_BELOW" = some (.int 40 t)
  c_MOST_IN_WAY : ∃ t, mg "MOST_IN_WAY" = some (.int 20 t)
  c_MOST_BROUGHT : ∃ t, mg "MOST_BROUGHT" = some (.int 1000 t)
  c_ROW : ∃ t, mg "ROW" = some (.int 2 t)
  divisor_of : Gf K mg "divisor_of" s_divisor_of ["one", "other"] A.divisor_of
  fraction : Gf K mg "fraction" s_fraction ["above", "below"] A.fraction
  parted : Gf K mg "parted" s_parted ["number"] A.parted
  brings : Gf K mg "brings" s_brings ["k", "l"] A.brings
  longer_walks : Gf K mg "longer_walks" s_longer_walks ["line", "walks", "least"] A.longer_walks
  is_least_turn : Gf K mg "is_least_turn" s_is_least_turn ["walk"] A.is_least_turn
  closed_walks : Gf K mg "closed_walks" s_closed_walks ["line", "k"] A.closed_walks
  factor_and_more : Gf K mg "factor_and_more" s_factor_and_more ["line", "walk"] A.factor_and_more
  round_of : Gf K mg "round_of" s_round_of ["line", "walk"] A.round_of
  from_least : Gf K mg "from_least" s_from_least ["places", "below"] A.from_least
  point_rounds : Gf K mg "point_rounds" s_point_rounds ["line", "k"] A.point_rounds
  steps_of_all : Gf K mg "steps_of_all" s_steps_of_all ["line", "piece"] A.steps_of_all
  is_endless : Gf K mg "is_endless" s_is_endless ["line", "k"] A.is_endless
  key_of : Gf K mg "key_of" s_key_of ["one"] A.key_of
  all_rounds : Gf K mg "all_rounds" s_all_rounds ["line", "k"] A.all_rounds
  has_round : Gf K mg "has_round" s_has_round ["line", "k"] A.has_round
  want : Gf K mg "want" s_want ["is_so", "refusal"] A.want
  want_steps : Gf K mg "want_steps" s_want_steps ["k"] A.want_steps
  ranks_of : Gf K mg "ranks_of" s_ranks_of ["places"] A.ranks_of
  do_brings : Gf K mg "do_brings" s_do_brings ["k", "l"] A.do_brings
  of_line : Gf K mg "of_line" s_of_line ["desk", "call", "n", "points"] A.of_line
  of_rounds : Gf K mg "of_rounds" s_of_rounds ["desk", "call", "n"] A.of_rounds
  told : Gf K mg "told" s_told ["desk", "call", "n", "points"] A.told
  answered : Gf K mg "answered" s_answered ["desk", "call", "n", "points"] A.answered
  answers : Gf K mg "answers" s_answers ["calls"] A.answers
  l_init : Mf K A.cL "__init__" "Line.__init__" s_l_init ["self", "points"] A.l_init
  l_many : Mf K A.cL "many" "Line.many" s_l_many ["self"] A.l_many
  l_slope : Mf K A.cL "slope" "Line.slope" s_l_slope ["self", "piece"] A.l_slope
  l_covers : Mf K A.cL "covers" "Line.covers" s_l_covers ["self", "piece", "other"] A.l_covers
  l_covered : Mf K A.cL "covered" "Line.covered" s_l_covered ["self", "piece"] A.l_covered
  l_put : Mf K A.cL "put" "Line.put" s_l_put ["self", "place"] A.l_put
  l_way : Mf K A.cL "way" "Line.way" s_l_way ["self", "place", "many"] A.l_way
  l_comes : Mf K A.cL "comes" "Line.comes" s_l_comes ["self", "place"] A.l_comes
  l_turned : Mf K A.cL "turned" "Line.turned" s_l_turned ["self"] A.l_turned
  d_init : Mf K A.cD "__init__" "Desk.__init__" s_d_init ["self"] A.d_init
  d_line : Mf K A.cD "line" "Desk.line" s_d_line ["self"] A.d_line
  d_begin : Mf K A.cD "begin" "Desk.begin" s_d_begin ["self", "n"] A.d_begin
  d_set_point : Mf K A.cD "set_point" "Desk.set_point" s_d_set_point ["self", "i", "v"] A.d_set_point
  d_set_row : Mf K A.cD "set_row" "Desk.set_row" s_d_set_row ["self", "points"] A.d_set_row
  d_place : Mf K A.cD "place" "Desk.place" s_d_place ["self", "p", "q"] A.d_place
  d_want_piece : Mf K A.cD "want_piece" "Desk.want_piece" s_d_want_piece ["self", "i"] A.d_want_piece
  d_put : Mf K A.cD "put" "Desk.put" s_d_put ["self", "p", "q"] A.d_put
  d_way : Mf K A.cD "way" "Desk.way" s_d_way ["self", "p", "q", "k"] A.d_way
  d_comes : Mf K A.cD "comes" "Desk.comes" s_d_comes ["self", "p", "q"] A.d_comes
  d_covers : Mf K A.cD "covers" "Desk.covers" s_d_covers ["self", "i", "j"] A.d_covers
  d_has : Mf K A.cD "has" "Desk.has" s_d_has ["self", "k"] A.d_has
  d_which : Mf K A.cD "which" "Desk.which" s_d_which ["self"] A.d_which
  d_rounds_of : Mf K A.cD "rounds_of" "Desk.rounds_of" s_d_rounds_of ["self", "k"] A.d_rounds_of
  d_rounds : Mf K A.cD "rounds" "Desk.rounds" s_d_rounds ["self", "k"] A.d_rounds
  d_round_at : Mf K A.cD "round_at" "Desk.round_at" s_d_round_at ["self", "k", "j"] A.d_round_at
  d_round : Mf K A.cD "round" "Desk.round" s_d_round ["self", "k", "j"] A.d_round
  d_type_of : Mf K A.cD "type_of" "Desk.type_of" s_d_type_of ["self", "k", "j"] A.d_type_of
  d_slope : Mf K A.cD "slope" "Desk.slope" s_d_slope ["self", "i"] A.d_slope
  d_turn : Mf K A.cD "turn" "Desk.turn" s_d_turn ["self"] A.d_turn
  d_state : Mf K A.cD "state" "Desk.state" s_d_state ["self"] A.d_state
end FW

namespace FW
open PySem PySem.Spec PyProof.Rows L2
/-! ## Words -/
theorem same_new {H : Hp} {p : Addr} {o : HO} (hp : H p = none) : Same H (upd H p o) := fun b u e => by
  rw [upd_ne (ne_of_none e hp)]
  exact e
theorem same_upd {H H' : Hp} {p : Addr} {o : HO} (s : Same H H') (hp : H p = none) : Same H (upd H' p o) := fun b u e => by
  rw [upd_ne (ne_of_none e hp)]
  exact s b u e
theorem line_le {n : Nat} (h : n ≤ 16777216) : n ≤ sizeLine := by
  rw [sizeLine_eq]
  exact h
theorem line_lt {n : Nat} (h : n < 16777216) : n < sizeLine := by
  rw [sizeLine_eq]
  exact h
theorem Same.lst {H H' : Hp} {a : Addr} {o : HO} (s : Same H H') (h : H a = some o) : H' a = some o := s _ _ h
section
variable {P : Program} {w : World} {K : PySem.W.Frag} {mg : Str → Option Value} {base : Heap} {A : Ad}

/-! ## divisor_of -/
def spGcd : Sp := fun vs H Q _ => ∃ a b : Nat, vs = [.int a, .int b] ∧ Q (.int ((Nat.gcd a b : Nat) : Int)) H
theorem sc_divisor_of : FnScope ["one", "other"] ["one", "other"] (defScope s_divisor_of) := ⟨rfl, rfl, rfl, by decide +kernel, rfl, by decide +kernel, by decide +kernel⟩
theorem ok_divisor_of (T : Txt K mg A) : FnOk P w K mg base CX0 1 A.divisor_of.a A.divisor_of.d ["one", "other"] spGcd := by
  refine T.divisor_of.fn.ok sc_divisor_of (fun vs H Q E h => ?_) (fun cdv A outer s H vs Q E hr h => ?_)
  · obtain ⟨a, b, rfl, _⟩ := h
    rfl
  · obtain ⟨a, b, rfl, k⟩ := h
    refine ⟨_, pss_cons (ps_while PassesOwn.never (pt_cmpR op_gt (pv 1) pe_int (nomark _))
        (pss_one (ps_par (i := 0) (j := 1) (by rfl) sc_divisor_of.nd rfl rfl (by decide) rfl rfl (pa_cons (pv 1) (pa_cons (pe_op op_mod (pv 0) (pv 1)) pa_nil)) (by rfl))))
      (pss_one (ps_ret (pv 0))), ?_⟩
    refine ⟨fun m σ H' => H' = H ∧ ∃ a' b' : Nat, m = b' ∧ σ = [some (.int a'), some (.int b')] ∧ Nat.gcd a' b' = Nat.gcd a b, ⟨b, rfl, a, b, rfl, rfl, rfl⟩, ?_⟩
    rintro m σ H' ⟨eH, a', b', em, rfl, e⟩
    subst eH em
    refine ⟨_, rfl, _, _, rfl, rfl, _, rfl, ?_⟩
    refine ite2 (fun c => ?_) (fun c => ?_)
    · have hb : 0 < m := by simpa using c
      refine ⟨_, fun _ _ q => q, ?_⟩
      refine ⟨_, rfl, _, rfl, _, rfl, _, _, rfl, rfl, (by show (0 : Int) < m; omega), _, _, rfl, ?_⟩
      refine ⟨a' % m, Nat.mod_lt _ hb, rfl, m, a' % m, rfl, rfl, ?_⟩
      rw [← e, Nat.gcd_comm m, ← Nat.gcd_rec, Nat.gcd_comm]
    · have hb : m = 0 := by
        have : ¬ (0 : Int) < m := by simpa using c
        omega
      subst hb
      refine ⟨_, rfl, ?_⟩
      rw [Nat.gcd_zero_right] at e
      rw [e]
      exact k

/-! ## fraction -/
/-- a fraction, a tuple of two numbers -/
def frV (x : Su183.Frac) : List V := [.int x.1, .int (x.2 : Int)]
def spFrac : Sp := fun vs H Q _ => ∃ a b : Nat, vs = [.int a, .int b] ∧ 0 < b ∧ b < 1000000000 ∧ ∀ p H', Same H H' → H p = none → H' p = some (.tup (frV (Su183.red a b))) → Q (.ref p) H'
theorem sc_fraction : FnScope ["above", "below", "by"] ["above", "below"] (defScope s_fraction) := ⟨rfl, rfl, rfl, by decide +kernel, rfl, by decide +kernel, by decide +kernel⟩
theorem ok_fraction (T : Txt K mg A) : FnOk P w K mg base CX0 2 A.fraction.a A.fraction.d ["above", "below"] spFrac := by
  refine T.fraction.fn.ok sc_fraction (fun vs H Q E h => ?_) (fun cdv A outer s H vs Q E hr h => ?_)
  · obtain ⟨a, b, rfl, _⟩ := h
    rfl
  · obtain ⟨a, b, rfl, b0, b1, k⟩ := h
    refine ⟨_, pss_cons (ps_set (i := 2) sc_fraction.nd rfl (.inl rfl) (pe_call (ok_divisor_of T) hr (by rfl) T.divisor_of.mg T.divisor_of.fn.kp T.divisor_of.b .nil pass0 (pa_cons (pv 0) (pa_cons (pv 1) pa_nil))))
      (pss_one (ps_ret (pe_tup (pa_cons (pe_op op_fdiv (pv 0) (pv 2)) (pa_cons (pe_op op_fdiv (pv 1) (pv 2)) pa_nil))))), ?_⟩
    have g0 : 0 < Nat.gcd a b := Nat.gcd_pos_of_pos_right _ b0
    have g1 : Nat.gcd a b ≤ b := Nat.gcd_le_right _ b0
    refine ⟨_, rfl, _, rfl, a, b, rfl, ?_⟩
    refine ⟨_, rfl, _, rfl, _, _, rfl, rfl, ⟨by omega, by omega⟩, _, rfl, _, rfl, _, _, rfl, rfl, ⟨by omega, by omega⟩, line_le (by show 2 ≤ 16777216; decide), fun p hp => ?_⟩
    refine k p _ (same_new hp) hp ?_
    rw [upd_same]
    rfl
end
end FW

namespace FW
open PySem PySem.Spec PyProof.Rows L2
open Su183 (Abs)
open FL (WF)
/-! ## The line in the heap -/
theorem lk_here {k : Str} {v : V} {r : List (Str × V)} : List.lookup k ((k, v) :: r) = some v := by
  have e : (k == k) = true := beq_self_eq_true k
  simp only [List.lookup, e]
theorem lk_past {k g : Str} {v : V} {r : List (Str × V)} (h : (k == g) = false) : List.lookup k ((g, v) :: r) = List.lookup k r := by
  simp only [List.lookup, h]
def lnF (lp fd : Addr) : List (Str × V) := [("points", .ref lp), ("found", .ref fd)]
theorem lnF_points (lp fd : Addr) : (lnF lp fd).lookup ("points" : Str) = some (.ref lp) := lk_here
theorem lnF_found (lp fd : Addr) : (lnF lp fd).lookup ("found" : Str) = some (.ref fd) := (lk_past (by decide +kernel)).trans lk_here
theorem lnF_no (lp fd : Addr) {m : Str} (h1 : (m == ("points" : Str)) = false) (h2 : (m == ("found" : Str)) = false) : (lnF lp fd).lookup m = none := (lk_past h1).trans ((lk_past h2).trans rfl)
def ptsV (l : List Nat) : List V := l.map fun (v : Nat) => V.int (v : Int)
structure Ln (A : Ad) (H : Hp) (a lp fd : Addr) (g : Abs) : Prop where
  ins : ∃ dx, H a = some (.ins A.cL dx (lnF lp fd))
  pts : H lp = some (.lst (ptsV g.to))
theorem Ln.same {A : Ad} {H H' : Hp} {a lp fd : Addr} {g : Abs} (l : Ln A H a lp fd g) (s : Same H H') : Ln A H' a lp fd g := by
  obtain ⟨⟨dx, h1⟩, h2⟩ := l
  exact ⟨⟨dx, s _ _ h1⟩, s _ _ h2⟩
theorem pts_at {g : Abs} (h : WF g) {j : Nat} (hj : j ≤ g.n) : (ptsV g.to)[j]? = some (.int (g.point j : Int)) := by
  unfold ptsV
  have hl : j < g.to.length := by rw [h.len]; omega
  rw [List.getElem?_map, List.getElem?_eq_getElem hl]
  unfold Abs.point
  rw [List.getD_eq_getElem?_getD, List.getElem?_eq_getElem hl]
  rfl
theorem ptsV_length (l : List Nat) : (ptsV l).length = l.length := by unfold ptsV; simp

section
variable {P : Program} {w : World} {K : PySem.W.Frag} {mg : Str → Option Value} {base : Heap} {A : Ad}

def spMany (A : Ad) : Sp := fun vs H Q _ => ∃ (a lp fd : Addr) (g : Abs), vs = [.ref a] ∧ WF g ∧ Ln A H a lp fd g ∧ Q (.int (g.n : Int)) H
theorem sc_l_many : FnScope ["self"] ["self"] (defScope s_l_many) := ⟨rfl, rfl, rfl, by decide +kernel, rfl, by decide +kernel, by decide +kernel⟩
theorem ok_l_many (T : Txt K mg A) : FnOk P w K mg base CX0 1 A.l_many.a A.l_many.d ["self"] (spMany A) := by
  refine T.l_many.fn.ok sc_l_many (fun vs H Q E h => ?_) (fun cdv B outer s H vs Q E hr h => ?_)
  · obtain ⟨a, lp, fd, g, rfl, _⟩ := h
    rfl
  · obtain ⟨a, lp, fd, g, rfl, wf, ⟨⟨dx, hi⟩, hp⟩, k⟩ := h
    refine ⟨_, pss_one (ps_ret (pe_op op_sub (pe_callB call_len_seq (by rfl) T.b_len PySem.boot_len (pa_cons (pe_fld (pv 0) rfl) pa_nil)) pe_int)), ?_⟩
    refine ⟨_, rfl, a, _, dx, _, _, rfl, hi, T.clL, T.nPoints, lnF_points _ _, lp, _, rfl, .inl (SqL.of hp), _, _, rfl, rfl, ?_⟩
    rw [ptsV_length, wf.len]
    show Q (V.int (((g.n + 1 : Nat) : Int) - 1)) H
    have e : ((g.n + 1 : Nat) : Int) - 1 = (g.n : Int) := by omega
    rw [e]
    exact k

def spSlope (A : Ad) : Sp := fun vs H Q _ => ∃ (a lp fd : Addr) (g : Abs) (j : Nat), vs = [.ref a, .int (j : Int)] ∧ WF g ∧ Ln A H a lp fd g ∧ j < g.n ∧ Q (.int (g.slope j)) H
theorem sc_l_slope : FnScope ["self", "piece"] ["self", "piece"] (defScope s_l_slope) := ⟨rfl, rfl, rfl, by decide +kernel, rfl, by decide +kernel, by decide +kernel⟩
theorem ok_l_slope (T : Txt K mg A) : FnOk P w K mg base CX0 1 A.l_slope.a A.l_slope.d ["self", "piece"] (spSlope A) := by
  refine T.l_slope.fn.ok sc_l_slope (fun vs H Q E h => ?_) (fun cdv B outer s H vs Q E hr h => ?_)
  · obtain ⟨a, lp, fd, g, j, rfl, _⟩ := h
    rfl
  · obtain ⟨a, lp, fd, g, j, rfl, wf, ⟨⟨dx, hi⟩, hp⟩, hj, k⟩ := h
    refine ⟨_, pss_one (ps_ret (pe_op op_sub (pe_ix ix_list (pe_fld (pv 0) rfl) (pe_op op_add (pv 1) pe_int) (fun _ _ => rfl)) (pe_ix ix_list (pe_fld (pv 0) rfl) (pv 1) (fun _ _ => rfl)))), ?_⟩
    refine ⟨_, rfl, a, _, dx, _, _, rfl, hi, T.clL, T.nPoints, lnF_points _ _, _, rfl, _, _, rfl, rfl, lp, _, _, _, rfl, rfl, SqL.of hp, atI_nat (j := j + 1) (pts_at wf (by omega)), ?_⟩
    refine ⟨_, rfl, a, _, dx, _, _, rfl, hi, T.clL, T.nPoints, lnF_points _ _, _, rfl, lp, _, _, _, rfl, rfl, SqL.of hp, atI_nat (j := j) (pts_at wf (by omega)), _, _, rfl, rfl, ?_⟩
    exact k

def spCovers (A : Ad) : Sp := fun vs H Q _ => ∃ (a lp fd : Addr) (g : Abs) (i j : Nat), vs = [.ref a, .int (i : Int), .int (j : Int)] ∧ WF g ∧ Ln A H a lp fd g ∧ i < g.n ∧ Q (.bl (g.covers i j)) H
theorem sc_l_covers : FnScope ["self", "piece", "other", "one", "end"] ["self", "piece", "other"] (defScope s_l_covers) := ⟨rfl, rfl, rfl, by decide +kernel, rfl, by decide +kernel, by decide +kernel⟩
theorem covers_int (g : Abs) (i j : Nat) : g.covers i j = (decide ((if (g.point (i + 1) : Int) < (g.point i : Int) then (g.point (i + 1) : Int) else (g.point i : Int)) ≤ (j : Int)) && decide ((j : Int) + 1 ≤ (if (g.point (i + 1) : Int) > (g.point i : Int) then (g.point (i + 1) : Int) else (g.point i : Int)))) := by
  unfold Abs.covers
  congr 1
  · apply decide_eq_decide.mpr
    split <;> omega
  · apply decide_eq_decide.mpr
    split <;> omega
theorem ok_l_covers (T : Txt K mg A) : FnOk P w K mg base CX0 1 A.l_covers.a A.l_covers.d ["self", "piece", "other"] (spCovers A) := by
  refine T.l_covers.fn.ok sc_l_covers (fun vs H Q E h => ?_) (fun cdv B outer s H vs Q E hr h => ?_)
  · obtain ⟨a, lp, fd, g, i, j, rfl, _⟩ := h
    rfl
  · obtain ⟨a, lp, fd, g, i, j, rfl, wf, ⟨⟨dx, hi⟩, hp⟩, hj, k⟩ := h
    refine ⟨_, pss_cons (ps_par (i := 3) (j := 4) (by rfl) sc_l_covers.nd rfl rfl (by decide) rfl rfl (pa_cons (pe_ix ix_list (pe_fld (pv 0) rfl) (pv 1) (fun _ _ => rfl)) (pa_cons (pe_ix ix_list (pe_fld (pv 0) rfl) (pe_op op_add (pv 1) pe_int) (fun _ _ => rfl)) pa_nil)) (by rfl))
      (pss_one (ps_ret (pe_and (pe_cmpR op_le (pe_callB (call_min2 rfl) (by rfl) T.b_min (by decide +kernel) (pa_cons (pv 3) (pa_cons (pv 4) pa_nil))) (pv 2) (nomark _))
        (pe_one (pe_cmpR op_le (pe_op op_add (pv 2) pe_int) (pe_callB (call_max2 rfl) (by rfl) T.b_max (by decide +kernel) (pa_cons (pv 3) (pa_cons (pv 4) pa_nil))) (nomark _)))))), ?_⟩
    refine ⟨_, rfl, a, _, dx, _, _, rfl, hi, T.clL, T.nPoints, lnF_points _ _, _, rfl, lp, _, _, _, rfl, rfl, SqL.of hp, atI_nat (j := i) (pts_at wf (by omega)), ?_⟩
    refine ⟨_, rfl, a, _, dx, _, _, rfl, hi, T.clL, T.nPoints, lnF_points _ _, _, rfl, _, _, rfl, rfl, lp, _, _, _, rfl, rfl, SqL.of hp, atI_nat (j := i + 1) (pts_at wf (by omega)), _, _, rfl, ?_⟩
    refine ⟨_, rfl, _, rfl, _, _, rfl, _, rfl, _, _, rfl, rfl, _, rfl, ?_⟩
    rw [covers_int] at k
    refine ite2 (fun c => ?_) (fun c => ?_)
    · refine ⟨_, rfl, _, _, rfl, rfl, _, rfl, _, rfl, _, _, rfl, _, _, rfl, rfl, ?_⟩
      rw [c, Bool.true_and] at k
      exact k
    · have c' : decide ((if (g.point (i + 1) : Int) < (g.point i : Int) then (g.point (i + 1) : Int) else (g.point i : Int)) ≤ (j : Int)) = false := by simpa using c
      rw [c', Bool.false_and] at k
      exact k
end
end FW

namespace FW
open PySem PySem.Spec PyProof.Rows L2
open Su183 (Abs Frac)
open FL (WF Pl)
section
variable {P : Program} {w : World} {K : PySem.W.Frag} {mg : Str → Option Value} {base : Heap} {A : Ad}

/-! ## covered -/
def natV (l : List Nat) : List V := l.map fun (v : Nat) => V.int (v : Int)
theorem natV_len (l : List Nat) : (natV l).length = l.length := by unfold natV; simp
theorem take_filter {p : Nat → Bool} (i : Nat) : (List.range (i + 1)).filter p = (List.range i).filter p ++ (if p i = true then [i] else []) := by
  rw [List.range_succ, List.filter_append]
  congr 1
  simp only [List.filter_cons, List.filter_nil]
theorem filter_range_le {p : Nat → Bool} (i : Nat) : ((List.range i).filter p).length ≤ i := by
  have := List.length_filter_le p (List.range i)
  simpa using this
def spCovered (A : Ad) : Sp := fun vs H Q _ => ∃ (a lp fd : Addr) (g : Abs) (j : Nat), vs = [.ref a, .int (j : Int)] ∧ WF g ∧ Ln A H a lp fd g ∧ j < g.n ∧
  ∀ p H', Same H H' → H p = none → H' p = some (.lst (natV (FL.coveredBy g j))) → Q (.ref p) H'
theorem sc_l_covered : FnScope ["self", "piece", "other"] ["self", "piece"] (defScope s_l_covered) := ⟨rfl, rfl, rfl, by decide +kernel, rfl, by decide +kernel, by decide +kernel⟩
theorem ok_l_covered (T : Txt K mg A) : FnOk P w K mg base CX0 2 A.l_covered.a A.l_covered.d ["self", "piece"] (spCovered A) := by
  refine T.l_covered.fn.ok sc_l_covered (fun vs H Q E h => ?_) (fun cdv B outer s H vs Q E hr h => ?_)
  · obtain ⟨a, lp, fd, g, j, rfl, _⟩ := h
    rfl
  · obtain ⟨a, lp, fd, g, j, rfl, wf, ln, hj, k⟩ := h
    refine ⟨_, pss_one (ps_ret (pe_lc (own := [("other", 2)]) (g := gName 2) rfl sc_l_covered.nd
      (pi_range1 (by rfl) T.b_range (pa_cons (pe_meth0 (pv 0) T.clL T.l_many.m (ok_l_many T) hr T.l_many.b .nil pass0) pa_nil))
      (blkOk_by (own := [("other", 2)]) (N := ["self", "piece", "other"]) (sc := defScope s_l_covered) (by decide +kernel))
      (fun _ _ _ _ _ => pg_name (i := 2) sc_l_covered.nd rfl (Or.inl rfl))
      (fun _ _ _ _ _ => pts_one (pt_val (pe_meth (pv 0) T.clL T.l_covers.m (ok_l_covers T) hr T.l_covers.b .nil pass0 (pa_cons (pv 1) (pa_cons (pv 2) pa_nil)))))
      (fun _ _ _ _ _ => pv 2))), ?_⟩
    obtain ⟨dx, hi⟩ := ln.ins
    refine ⟨_, rfl, a, dx, _, rfl, hi, lnF_no _ _ (by decide +kernel) (by decide +kernel), a, lp, fd, g, rfl, wf, ln, ?_⟩
    have h6 := wf.six
    refine ⟨_, rfl, by omega, by omega, fun D hD => ?_⟩
    refine lc_range (lo := 0) (n := g.n) (fun i H' => Same H H' ∧ H' D = some (.lst (natV ((List.range i).filter fun i => g.covers j i)))) ⟨same_new hD, upd_same⟩ ?_ ?_
    · rintro i H' hi' ⟨s1, h1⟩
      have l1 := ln.same s1
      obtain ⟨dx1, hi1⟩ := l1.ins
      refine ⟨rfl, ?_⟩
      have e0 : (0 : Int) + (i : Int) = (i : Int) := by omega
      refine ⟨_, rfl, a, dx1, _, rfl, hi1, lnF_no _ _ (by decide +kernel) (by decide +kernel), _, rfl, _, rfl, a, lp, fd, g, j, i, by rw [e0] <;> rfl, wf, l1, hj, _, rfl, ?_⟩
      rw [take_filter]
      refine ite2 (fun c => ?_) (fun c => ?_)
      · refine ⟨_, rfl, _, h1, ?_, same_upd s1 hD, ?_⟩
        · rw [natV_len]
          have := filter_range_le (p := fun i => g.covers j i) i
          exact line_lt (by omega)
        · rw [upd_same, if_pos c, e0]
          unfold natV
          rw [List.map_append]
          rfl
      · rw [if_neg c, List.append_nil]
        exact ⟨s1, h1⟩
    · rintro H' ⟨s1, h1⟩
      exact k D H' s1 hD h1
end
end FW

namespace FW
open PySem PySem.Spec PyProof.Rows L2
open Su183 (Abs Frac)
open FL (WF Pl)
/-! ## Rows of fractions -/
def FrAt (H : Hp) (v : V) (f : Frac) : Prop := ∃ t, v = .ref t ∧ H t = some (.tup (frV f))
abbrev Frs (H : Hp) : List V → List Frac → Prop := Paired (FrAt H)
theorem Frs.same {H H' : Hp} (s : Same H H') {vs : List V} {fs : List Frac} (r : Frs H vs fs) : Frs H' vs fs := Paired.mono (fun _ _ ⟨t, e, h⟩ => ⟨t, e, s _ _ h⟩) r
theorem paired_unsnoc {α β : Type} {F : α → β → Prop} : ∀ {ys : List β} {y : β} {xs : List α}, Paired F xs (ys ++ [y]) → ∃ xs' x, xs = xs' ++ [x] ∧ Paired F xs' ys ∧ F x y
  | [], y, _, .cons h .nil => ⟨[], _, rfl, .nil, h⟩
  | z :: ys, y, _, .cons h t => by
    obtain ⟨xs', x, rfl, h2, h3⟩ := paired_unsnoc t
    exact ⟨_ :: xs', x, rfl, .cons h h2, h3⟩
theorem paired_get {α β : Type} {F : α → β → Prop} : ∀ {xs : List α} {ys : List β} {i : Nat} {x : α}, Paired F xs ys → xs[i]? = some x → ∃ y, ys[i]? = some y ∧ F x y
  | _, _, _, _, .nil, h => by simp at h
  | _, _, 0, x, .cons h t, e => by
    simp at e
    subst e
    exact ⟨_, rfl, h⟩
  | _, _, i + 1, x, .cons h t, e => by
    have e' := e
    simp at e'
    obtain ⟨y, h1, h2⟩ := paired_get t e'
    exact ⟨y, by simpa using h1, h2⟩
/-- a fraction as data -/
def frD (f : Frac) : PyData := .tuple [.int f.1, .int (f.2 : Int)]
theorem frD_dp {K : PySem.W.Frag} {H : Hp} {t : Addr} {f : Frac} (h : H t = some (.tup (frV f))) : Dp K H (.ref t) (frD f) := .tup (SqT.of h) (.cons (.int _) (.cons (.int _) .nil))
theorem frD_dps {K : PySem.W.Frag} {H : Hp} : ∀ {vs : List V} {fs : List Frac}, Frs H vs fs → DpAll K H vs (fs.map frD)
  | _, _, .nil => .nil
  | _, _, .cons ⟨t, e, h⟩ r => by
    subst e
    exact .cons (frD_dp h) (frD_dps r)
theorem frD_lay (f : Frac) : (frD f).canLay0 = true := by simp [frD, PyData.canLay0, PyData.canLayAll0]
theorem frD_depth (f : Frac) : (frD f).depth = 1 := by simp [frD, PyData.depth, PyData.depthAll]
theorem frD_shaped (f : Frac) : SeqAt.shaped (frD f) = true := by
  unfold SeqAt.shaped
  rw [frD_lay, frD_depth]
  rfl
theorem frDs_lay : ∀ fs : List Frac, PyData.canLayAll0 (fs.map frD) = true
  | [] => by simp [PyData.canLayAll0]
  | f :: fs => by simp [PyData.canLayAll0, frD_lay f, frDs_lay fs]
theorem frDs_depth : ∀ fs : List Frac, PyData.depthAll (fs.map frD) ≤ 1
  | [] => by simp [PyData.depthAll]
  | f :: fs => by
    have a := frDs_depth fs
    have b := frD_depth f
    simp only [List.map_cons, PyData.depthAll]
    omega
theorem frDs_shaped (fs : List Frac) : SeqAt.shaped (.list (fs.map frD)) = true := by
  unfold SeqAt.shaped
  have a := frDs_depth fs
  have b : PyData.depth (.list (fs.map frD)) ≤ 64 := by
    simp only [PyData.depth]
    omega
  have c : PyData.canLay0 (.list (fs.map frD)) = true := by
    simp only [PyData.canLay0]
    exact frDs_lay fs
  rw [c, decide_eq_true b]
  rfl
theorem frD_eqv (a b : Frac) : PyData.eqv (frD a) (frD b) = decide (a = b) := by
  obtain ⟨a1, a2⟩ := a
  obtain ⟨b1, b2⟩ := b
  have e : PyData.eqv (frD (a1, a2)) (frD (b1, b2)) = ((a1 == b1) && (((a2 : Int) == (b2 : Int)) && true)) := by simp only [frD, PyData.eqv, PyData.eqvAll]
  rw [e]
  by_cases h1 : a1 = b1
  · by_cases h2 : a2 = b2
    · subst h1 h2
      simp
    · have q : ((a2 : Int) == (b2 : Int)) = false := beq_eq_false_iff_ne.mpr (by omega)
      rw [q, Bool.false_and, Bool.and_false]
      symm
      apply decide_eq_false
      intro z
      exact h2 (Prod.mk.inj z).2
  · have q : (a1 == b1) = false := beq_eq_false_iff_ne.mpr h1
    rw [q, Bool.false_and]
    symm
    apply decide_eq_false
    intro z
    exact h1 (Prod.mk.inj z).1
theorem frD_any (f : Frac) (fs : List Frac) : ((fs.map frD).any fun z => PyData.eqv z (frD f)) = decide (f ∈ fs) := by
  rw [List.any_map]
  induction fs with
  | nil => simp
  | cons a fs ih =>
    rw [List.any_cons, ih]
    show (PyData.eqv (frD a) (frD f) || _) = _
    rw [frD_eqv]
    by_cases h : a = f
    · subst h
      simp
    · have : f ≠ a := fun z => h z.symm
      simp [h, this]
section
variable {P : Program} {w : World} {K : PySem.W.Frag} {mg : Str → Option Value} {base : Heap} {A : Ad}

/-! ## put -/
def spPut (A : Ad) : Sp := fun vs H Q _ => ∃ (a lp fd t : Addr) (g : Abs) (x : Frac), vs = [.ref a, .ref t] ∧ WF g ∧ Ln A H a lp fd g ∧ Pl g x ∧ x.2 ≤ 1000 ∧ H t = some (.tup (frV x)) ∧
  ∀ p H', Same H H' → H p = none → H' p = some (.tup (frV (g.put x))) → Q (.ref p) H'
theorem sc_l_put : FnScope ["self", "place", "above", "below", "point", "into"] ["self", "place"] (defScope s_l_put) := ⟨rfl, rfl, rfl, by decide +kernel, rfl, by decide +kernel, by decide +kernel⟩
theorem ok_l_put (T : Txt K mg A) : FnOk P w K mg base CX0 3 A.l_put.a A.l_put.d ["self", "place"] (spPut A) := by
  refine T.l_put.fn.ok sc_l_put (fun vs H Q E h => ?_) (fun cdv B outer s H vs Q E hr h => ?_)
  · obtain ⟨a, lp, fd, t, g, x, rfl, _⟩ := h
    rfl
  · obtain ⟨a, lp, fd, t, g, x, rfl, wf, ln, pl, x2, ht, k⟩ := h
    refine ⟨_, pss_cons (ps_asg (pv 1) (pg_tup (by rfl) (pgs_cons (pg_name (i := 2) sc_l_put.nd rfl (.inl rfl)) (pgs_cons (pg_name (i := 3) sc_l_put.nd rfl (.inl rfl)) pgs_nil))))
      (pss_cons (ps_set (i := 4) sc_l_put.nd rfl (.inl rfl) (pe_op op_fdiv (pv 2) (pv 3)))
      (pss_cons (ps_if (pt_cmpR op_eq (pe_op op_mul (pv 4) (pv 3)) (pv 2) (nomark _)) (pss_one (ps_ret (pe_tup (pa_cons (pe_ix ix_list (pe_fld (pv 0) rfl) (pv 4) (fun _ _ => rfl)) (pa_cons pe_int pa_nil))))) pss_nil)
      (pss_cons (ps_set (i := 5) sc_l_put.nd rfl (.inl rfl) (pe_op op_sub (pv 2) (pe_op op_mul (pv 4) (pv 3))))
      (pss_one (ps_ret (pe_call (ok_fraction T) hr (by rfl) T.fraction.mg T.fraction.fn.kp T.fraction.b .nil pass0
        (pa_cons (pe_op op_add (pe_op op_mul (pe_ix ix_list (pe_fld (pv 0) rfl) (pv 4) (fun _ _ => rfl)) (pv 3)) (pe_op op_mul (pv 5) (pe_meth (pv 0) T.clL T.l_slope.m (ok_l_slope T) (hr.mono (by decide)) T.l_slope.b .nil pass0 (pa_cons (pv 4) pa_nil)))) (pa_cons (pv 3) pa_nil)))))))), ?_⟩
    obtain ⟨⟨dx, hi⟩, hp⟩ := id ln
    have hB := pl.1.1
    obtain ⟨d0, d1, d2⟩ := FL.div_in pl
    obtain ⟨q, hq⟩ := Int.eq_ofNat_of_zero_le d0
    have h6 := wf.six
    have hx1 : x.1 ≤ 6000 := by
      have := pl.2.2
      have m : (g.n : Int) * x.2 ≤ 6 * 1000 := Int.mul_le_mul (by omega) (by omega) (by omega) (by omega)
      omega
    have hx0 := pl.2.1
    have hqn : q ≤ 6000 := by
      have : (q : Int) * 1 ≤ q * x.2 := Int.mul_le_mul_of_nonneg_left (by omega) (by omega)
      rw [hq] at d1
      omega
    refine ⟨_, rfl, t, _, rfl, SqT.of ht, rfl, _, _, rfl, _, _, rfl, rfl, ?_⟩
    refine ⟨_, rfl, _, rfl, _, _, rfl, rfl, ⟨by omega, by omega⟩, ?_⟩
    refine ⟨_, rfl, _, rfl, _, _, rfl, rfl, .inl ⟨by rw [hq]; omega, by rw [hq]; omega⟩, _, rfl, rfl, _, rfl, ?_⟩
    refine ite2 (fun c => ?_) (fun c => ?_)
    · have c1 : V.int (x.1 / (x.2 : Int) * x.2) = V.int x.1 := of_decide_eq_true c
      have c2 : x.1 / (x.2 : Int) * x.2 = x.1 := by injection c1
      obtain ⟨e1, e2⟩ := FL.put_point wf pl c2
      rw [hq] at e1 e2
      refine ⟨_, rfl, a, _, dx, _, _, rfl, hi, T.clL, T.nPoints, lnF_points _ _, _, rfl, lp, _, _, _, rfl, rfl, SqL.of hp, at_of hq (pts_at wf (by simpa using e1)), line_le (by show 2 ≤ 16777216; decide), fun p hpn => ?_⟩
      refine k p _ (same_new hpn) hpn ?_
      rw [upd_same, e2]
      rfl
    · have c2 : x.1 / (x.2 : Int) * x.2 ≠ x.1 := fun z => c (by
        show decide (V.int (x.1 / (x.2 : Int) * x.2) = V.int x.1) = true
        rw [z]
        exact decide_eq_true rfl)
      obtain ⟨e1, e2, e3⟩ := FL.put_between wf pl c2
      rw [hq] at e1 e2 e3
      have e1' : q < g.n := by simpa using e1
      have sl := FL.slope_le wf q
      refine ⟨_, rfl, _, rfl, _, rfl, _, _, rfl, rfl, .inl ⟨by rw [hq]; omega, by rw [hq]; omega⟩, _, _, rfl, rfl, ?_⟩
      have pp := wf.point_le q
      refine ⟨_, rfl, a, _, dx, _, _, rfl, hi, T.clL, T.nPoints, lnF_points _ _, _, rfl, lp, _, _, _, rfl, rfl, SqL.of hp, at_of hq (pts_at wf (by omega)), _, rfl, _, _, rfl, rfl, .inl ⟨by omega, by omega⟩, ?_⟩
      refine ⟨_, rfl, _, rfl, a, dx, _, rfl, hi, lnF_no _ _ (by decide +kernel) (by decide +kernel), _, rfl, a, lp, fd, g, q, by show [V.ref a, V.int (x.1 / (x.2 : Int))] = _; rw [hq], wf, ln, e1', _, _, rfl, rfl, .inr ⟨by omega, by omega⟩, _, _, rfl, rfl, _, rfl, ?_⟩
      obtain ⟨m, hm⟩ := Int.eq_ofNat_of_zero_le e2
      have hm' : (g.point q : Int) * x.2 + (x.1 - q * x.2) * g.slope q = (m : Int) := by simpa using hm
      have e3' : g.put x = Su183.red (m : Int) x.2 := by
        rw [e3, hm]
      refine ⟨m, x.2, ?_, hB, by omega, fun p H' s1 hpn h1 => ?_⟩
      · show [V.int ((g.point q : Int) * x.2 + (x.1 - x.1 / (x.2 : Int) * x.2) * g.slope q), V.int (x.2 : Int)] = _
        rw [hq]
        show [V.int ((g.point q : Int) * x.2 + (x.1 - (q : Int) * x.2) * g.slope q), V.int (x.2 : Int)] = _
        rw [hm']
      · refine k p H' s1 hpn ?_
        rw [e3']
        exact h1
end
end FW

namespace FW
open PySem PySem.Spec PyProof.Rows L2
open Su183 (Abs Frac)
open FL (WF Pl)
section
variable {P : Program} {w : World} {K : PySem.W.Frag} {mg : Str → Option Value} {base : Heap} {A : Ad}

/-! ## way -/
def spWay (A : Ad) : Sp := fun vs H Q _ => ∃ (a lp fd t : Addr) (g : Abs) (x : Frac) (k : Nat), vs = [.ref a, .ref t, .int (k : Int)] ∧ WF g ∧ Ln A H a lp fd g ∧ Pl g x ∧ x.2 ≤ 1000 ∧ H t = some (.tup (frV x)) ∧ 0 < k ∧ k ≤ 1000 ∧
  ∀ p rs H', Same H H' → H p = none → H' p = some (.lst rs) → Frs H' rs (g.way x k) → Q (.ref p) H'
theorem sc_l_way : FnScope ["self", "place", "many", "found", "step"] ["self", "place", "many"] (defScope s_l_way) := ⟨rfl, rfl, rfl, by decide +kernel, rfl, by decide +kernel, by decide +kernel⟩
theorem ok_l_way (T : Txt K mg A) : FnOk P w K mg base CX0 4 A.l_way.a A.l_way.d ["self", "place", "many"] (spWay A) := by
  refine T.l_way.fn.ok sc_l_way (fun vs H Q E h => ?_) (fun cdv B outer s H vs Q E hr h => ?_)
  · obtain ⟨a, lp, fd, t, g, x, k, rfl, _⟩ := h
    rfl
  · obtain ⟨a, lp, fd, t, g, x, k, rfl, wf, ln, pl, x2, ht, k0, k1, kk⟩ := h
    refine ⟨_, pss_cons (ps_set (i := 3) sc_l_way.nd rfl (.inl rfl) (pe_lst (pa_cons (pv 1) pa_nil)))
      (pss_cons (ps_for PassesOwn.never rfl (pi_range1 (by rfl) T.b_range (pa_cons (pe_op op_sub (pv 2) pe_int) pa_nil)) (pg_name (i := 4) sc_l_way.nd rfl (.inl rfl))
        (pss_one (ps_expr (pe_bm PySem.F.plainAttrs_list PySem.F.slot_list_append PySem.F.type_list_append mt_append (pv 3)
          (pa_cons (pe_meth (pv 0) T.clL T.l_put.m (ok_l_put T) hr T.l_put.b .nil pass0 (pa_cons (pe_ix ix_list (pv 3) (pe_un un_neg pe_int) (fun _ _ => rfl)) pa_nil)) pa_nil)))))
      (pss_one (ps_ret (pv 3)))), ?_⟩
    refine ⟨_, rfl, line_le (by show 1 ≤ 16777216; decide), fun D hD => ?_⟩
    refine ⟨_, rfl, _, _, rfl, rfl, _, rfl, by show -(2 ^ 62) ≤ (k : Int) - 1; omega, by show (k : Int) - 1 < 2 ^ 62; omega, ?_⟩
    have ek : ((k : Int) - 1).toNat = k - 1 := by omega
    refine for_range (lo := 0) (n := ((k : Int) - 1).toNat) (fun i σ H' => ∃ v4 rs, σ = [some (.ref a), some (.ref t), some (.int (k : Int)), some (.ref D), v4] ∧ Same H H' ∧ H' D = some (.lst rs) ∧ Frs H' rs (g.way x (i + 1)))
      ⟨none, [.ref t], rfl, same_new hD, upd_same, .cons ⟨t, rfl, by rw [upd_ne (ne_of_none ht hD)]; exact ht⟩ .nil⟩ ?_ ?_
    · rintro i σ H' hi ⟨v4, rs, rfl, s1, h1, r1⟩
      have l1 := ln.same s1
      obtain ⟨dx, hx⟩ := l1.ins
      have lr := Paired.length r1
      rw [FL.way_length] at lr
      rw [FL.way_succ] at r1
      obtain ⟨rs', v, rfl, r2, ⟨t', rfl, ht'⟩⟩ := paired_unsnoc r1
      have hpl := pl.after wf i
      have hbl := FL.after_below wf pl i
      refine ⟨_, rfl, .inl ⟨rfl, _, SqL.of h1⟩, _, rfl, a, dx, _, rfl, hx, lnF_no _ _ (by decide +kernel) (by decide +kernel), _, rfl, _, rfl, D, _, _, _, rfl, rfl, SqL.of h1, atI_last _ _, ?_⟩
      refine ⟨a, lp, fd, t', g, g.after x i, rfl, wf, l1, hpl, by omega, ht', fun p H2 s2 hpn h2 => ?_⟩
      refine ⟨D, _, _, rfl, rfl, s2 _ _ h1, line_lt (by rw [lr]; omega), ?_⟩
      have hpD : p ≠ D := (ne_of_none h1 hpn).symm
      have s3 : Same H (upd H2 D (.lst (rs' ++ [.ref t'] ++ [.ref p]))) := same_upd (s1.trans s2) hD
      have s4 : ∀ b f, H' b = some (.tup (frV f)) → (upd H2 D (.lst (rs' ++ [.ref t'] ++ [.ref p]))) b = some (.tup (frV f)) := fun b f e => by
        rw [upd_ne (ne_of e h1 (by intro z; cases z))]
        exact s2 _ _ e
      refine ⟨_, _, rfl, s3, upd_same, ?_⟩
      rw [FL.way_succ, FL.way_succ]
      refine Paired.snoc (Paired.snoc (Paired.mono (fun v f ⟨u, e, q⟩ => ⟨u, e, s4 _ _ q⟩) r2) ⟨t', rfl, s4 _ _ ht'⟩) ⟨p, rfl, ?_⟩
      rw [upd_ne hpD, FL.after_succ']
      exact h2
    · rintro σ H' ⟨v4, rs, rfl, s1, h1, r1⟩
      refine ⟨_, rfl, ?_⟩
      rw [ek, show k - 1 + 1 = k by omega] at r1
      exact kk D rs H' s1 hD h1 r1

/-! ## comes -/
def spComes (A : Ad) : Sp := fun vs H Q _ => ∃ (a lp fd t : Addr) (g : Abs) (x : Frac), vs = [.ref a, .ref t] ∧ WF g ∧ Ln A H a lp fd g ∧ Pl g x ∧ x.2 ≤ 1000 ∧ H t = some (.tup (frV x)) ∧
  ∀ p H', Same H H' → H p = none → H' p = some (.tup [.int ((g.comes x).1 : Int), .int ((g.comes x).2 : Int)]) → Q (.ref p) H'
theorem sc_l_comes : FnScope ["self", "place", "seen", "begin"] ["self", "place"] (defScope s_l_comes) := ⟨rfl, rfl, rfl, by decide +kernel, rfl, by decide +kernel, by decide +kernel⟩
theorem way_mem {g : Abs} {x y : Frac} {s : Nat} : y ∈ g.way x s ↔ ∃ i, i < s ∧ g.after x i = y := by
  rw [FL.way_eq, List.mem_map]
  constructor
  · rintro ⟨i, hi, e⟩
    exact ⟨i, List.mem_range.mp hi, e⟩
  · rintro ⟨i, hi, e⟩
    exact ⟨i, List.mem_range.mpr hi, e⟩
theorem way_get {g : Abs} {x : Frac} {s i : Nat} (hi : i < s) : (g.way x s)[i]? = some (g.after x i) := by
  rw [FL.way_eq, List.getElem?_map, List.getElem?_range hi]
  rfl
theorem ok_l_comes (T : Txt K mg A) : FnOk P w K mg base CX0 4 A.l_comes.a A.l_comes.d ["self", "place"] (spComes A) := by
  refine T.l_comes.fn.ok sc_l_comes (fun vs H Q E h => ?_) (fun cdv B outer s H vs Q E hr h => ?_)
  · obtain ⟨a, lp, fd, t, g, x, rfl, _⟩ := h
    rfl
  · obtain ⟨a, lp, fd, t, g, x, rfl, wf, ln, pl, x2, ht, kk⟩ := h
    have hu : (B.deeper (envOfC (Str.ofString "Line.comes") (defScope s_l_comes) s.heap.objs.size A.l_comes.a cdv)).units + 65 < cLine := by
      have := hr.un
      omega
    refine ⟨_, pss_cons (ps_set (i := 2) sc_l_comes.nd rfl (.inl rfl) (pe_lst pa_nil))
      (pss_cons (ps_while PassesOwn.never (pt_cmpR (op_notInD hu) (pv 1) (pv 2) (by rfl))
        (pss_cons (ps_expr (pe_bm PySem.F.plainAttrs_list PySem.F.slot_list_append PySem.F.type_list_append mt_append (pv 2) (pa_cons (pv 1) pa_nil)))
          (pss_one (ps_set (i := 1) sc_l_comes.nd rfl (.inl rfl) (pe_meth (pv 0) T.clL T.l_put.m (ok_l_put T) hr T.l_put.b .nil pass0 (pa_cons (pv 1) pa_nil))))))
      (pss_cons (ps_set (i := 3) sc_l_comes.nd rfl (.inl rfl) (pe_bm PySem.F.plainAttrs_list PySem.F.slot_list_index PySem.F.type_list_index (mt_indexD hu) (pv 2) (pa_cons (pv 1) pa_nil)))
      (pss_one (ps_ret (pe_tup (pa_cons (pv 3) (pa_cons (pe_op op_sub (pe_callB call_len_seq (by rfl) T.b_len PySem.boot_len (pa_cons (pv 2) pa_nil)) (pv 3)) pa_nil))))))), ?_⟩
    refine ⟨line_le (Nat.zero_le _), fun D hD => ?_⟩
    refine ⟨fun m σ H' => ∃ s t' rs, m = g.n * x.2 + 2 - s ∧ σ = [some (.ref a), some (.ref t'), some (.ref D), none] ∧ Same H H' ∧ H' D = some (.lst rs) ∧ Frs H' rs (g.way x s) ∧ H' t' = some (.tup (frV (g.after x s))) ∧ ∀ i j, i < j → j < s → g.after x i ≠ g.after x j,
      ⟨_, 0, t, [], rfl, rfl, same_new hD, upd_same, .nil, by rw [upd_ne (ne_of_none ht hD)]; exact ht, fun i j _ hj => absurd hj (Nat.not_lt_zero _)⟩, ?_⟩
    rintro m σ H' ⟨s, t', rs, em, rfl, s1, h1, r1, ht', dis⟩
    have hs := FL.distinct_bound wf pl dis
    have h6 := wf.six
    have hsz : s ≤ 6001 := by
      have : g.n * x.2 ≤ 6 * 1000 := Nat.mul_le_mul h6 x2
      omega
    have lr := Paired.length r1
    rw [FL.way_length] at lr
    refine ⟨_, rfl, _, rfl, _, _, frD_dp ht', .lst (SqL.of h1) (frD_dps r1), frD_shaped _, frDs_shaped _, _, rfl, ?_⟩
    rw [frD_any]
    refine ite2 (fun c => ?_) (fun c => ?_)
    · have hn : g.after x s ∉ g.way x s := by simpa using c
      have dis' : ∀ i j, i < j → j < s + 1 → g.after x i ≠ g.after x j := by
        intro i j hij hj e
        by_cases q : j = s
        · subst q
          exact hn (way_mem.mpr ⟨i, hij, e⟩)
        · exact dis i j hij (by omega) e
      have hs' := FL.distinct_bound wf pl dis'
      refine ⟨_, fun _ _ q => q, ?_⟩
      refine ⟨_, rfl, .inl ⟨rfl, _, SqL.of h1⟩, _, rfl, D, _, _, rfl, rfl, h1, line_lt (by rw [lr]; omega), ?_⟩
      have s2 : Same H (upd H' D (.lst (rs ++ [.ref t']))) := same_upd s1 hD
      have l2 := ln.same s2
      obtain ⟨dx, hx⟩ := l2.ins
      have keep : ∀ b f, H' b = some (.tup (frV f)) → (upd H' D (.lst (rs ++ [.ref t']))) b = some (.tup (frV f)) := fun b f e => by
        rw [upd_ne (ne_of e h1 (by intro z; cases z))]
        exact e
      refine ⟨_, rfl, a, dx, _, rfl, hx, lnF_no _ _ (by decide +kernel) (by decide +kernel), _, rfl, a, lp, fd, t', g, g.after x s, rfl, wf, l2, pl.after wf s, by have := FL.after_below wf pl s; omega, keep _ _ ht', fun p H2 s3 hpn h3 => ?_⟩
      refine ⟨g.n * x.2 + 2 - (s + 1), by omega, s + 1, p, _, rfl, rfl, s2.trans s3, s3 _ _ upd_same, ?_, by rw [FL.after_succ']; exact h3, dis'⟩
      rw [FL.way_succ]
      exact Frs.same s3 (Paired.snoc (Paired.mono (fun v f ⟨u, e, q⟩ => ⟨u, e, keep _ _ q⟩) r1) ⟨t', rfl, keep _ _ ht'⟩)
    · have hin : g.after x s ∈ g.way x s := by simpa using c
      obtain ⟨i, hi, ei⟩ := way_mem.mp hin
      have rep : FL.FirstRep (g.after x) i s := ⟨hi, ei, dis⟩
      have ec := FL.comes_eq wf pl rep
      refine ⟨_, rfl, .inl ⟨rfl, _, SqL.of h1⟩, _, rfl, D, _, _, _, i, frD (g.after x i), rfl, rfl, .lst (SqL.of h1) (frD_dps r1), frD_dp ht', frDs_shaped _, frD_shaped _, ?_, ?_, ?_, ?_⟩
      · rw [List.getElem?_map, way_get hi]
        rfl
      · rw [frD_eqv, ei]
        simp
      · intro m z hm hz
        rw [List.getElem?_map, way_get (by omega)] at hz
        have e2 : frD (g.after x m) = z := Option.some.inj hz
        rw [← e2, frD_eqv]
        apply decide_eq_false
        intro e3
        exact dis m i hm hi (e3.trans ei.symm)
      · refine ⟨_, rfl, _, rfl, D, _, rfl, .inl (SqL.of h1), _, rfl, _, _, rfl, rfl, line_le (by show 2 ≤ 16777216; decide), fun p hp => ?_⟩
        refine kk p _ (s1.trans (same_new hp)) (s1.free hp) ?_
        rw [upd_same, ec, lr]
        show some (HO.tup [V.int (i : Int), V.int ((s : Int) - (i : Int))]) = some (HO.tup [V.int (i : Int), V.int ((s - i : Nat) : Int)])
        have e : (s : Int) - (i : Int) = ((s - i : Nat) : Int) := by omega
        rw [e]

/-! ## a new line -/
def spLnInit (A : Ad) : Sp := fun vs H Q _ => ∃ (a dx lp : Addr), vs = [.ref a, .ref lp] ∧ H a = some (.ins A.cL dx []) ∧
  ∀ fd H', (∀ b o, H b = some o → b ≠ a → H' b = some o) → H fd = none → H' a = some (.ins A.cL dx (lnF lp fd)) → H' fd = some (.dK []) → Q .non H'
theorem sc_l_init : FnScope ["self", "points"] ["self", "points"] (defScope s_l_init) := ⟨rfl, rfl, rfl, by decide +kernel, rfl, by decide +kernel, by decide +kernel⟩
theorem lnF_new (lp fd : Addr) : putF "found" (.ref fd) (putF "points" (.ref lp) []) = lnF lp fd := by
  show (if ("points" : Str) = "found" then _ else (("points" : Str), V.ref lp) :: putF "found" (V.ref fd) []) = _
  rw [if_neg (by decide +kernel)]
  rfl
theorem ok_l_init (T : Txt K mg A) : FnOk P w K mg base CX0 1 A.l_init.a A.l_init.d ["self", "points"] (spLnInit A) := by
  refine T.l_init.fn.ok sc_l_init (fun vs H Q E h => ?_) (fun cdv B outer s H vs Q E hr h => ?_)
  · obtain ⟨a, dx, lp, rfl, _⟩ := h
    rfl
  · obtain ⟨a, dx, lp, rfl, hx, k⟩ := h
    refine ⟨_, pss_cons (ps_fld (pv 0) (pv 1) rfl) (pss_one (ps_fld (pv 0) pe_dnewK rfl)), ?_⟩
    refine ⟨_, rfl, _, rfl, a, _, dx, [], rfl, hx, T.clL, T.nPoints, (by show 0 < 1000; decide), fun fd hfd => ?_⟩
    have nfa : a ≠ fd := ne_of_none upd_same hfd
    refine ⟨_, rfl, a, _, dx, _, rfl, Eq.trans (upd_ne nfa) upd_same, T.clL, T.nFound, (by show 1 < 1000; decide), ?_⟩
    have hfd0 : H fd = none := by
      rw [upd_ne nfa.symm] at hfd
      exact hfd
    refine k fd _ (fun b o e nb => ?_) hfd0 ?_ ?_
    · rw [upd_ne nb, upd_ne (ne_of_none e hfd0), upd_ne nb]
      exact e
    · rw [upd_same, lnF_new]
    · rw [upd_ne nfa.symm, upd_same]
/-- what Line(points) leaves -/
theorem ln_made {A : Ad} {H H1 : Hp} {x dx lp fd : Addr} {g : Abs} (nx : H x = none) (nd : H dx = none) (hp : H lp = some (.lst (ptsV g.to)))
    (k : ∀ b o, (upd (upd H dx (.own x)) x (.ins A.cL dx [])) b = some o → b ≠ x → H1 b = some o) (h1 : H1 x = some (.ins A.cL dx (lnF lp fd))) : Same H H1 ∧ Ln A H1 x lp fd g := by
  have s := Same.made nx nd k
  exact ⟨s, ⟨dx, h1⟩, s _ _ hp⟩

/-! ## turned -/
def spTurned (A : Ad) : Sp := fun vs H Q _ => ∃ (a lp fd : Addr) (g : Abs), vs = [.ref a] ∧ WF g ∧ Ln A H a lp fd g ∧
  ∀ x lp' fd' H', Same H H' → H x = none → H fd' = none → Ln A H' x lp' fd' g.turned → H' fd' = some (.dK []) → Q (.ref x) H'
theorem sc_l_turned : FnScope ["self", "many", "point"] ["self"] (defScope s_l_turned) := ⟨rfl, rfl, rfl, by decide +kernel, rfl, by decide +kernel, by decide +kernel⟩
theorem ok_l_turned (T : Txt K mg A) : FnOk P w K mg base CX0 3 A.l_turned.a A.l_turned.d ["self"] (spTurned A) := by
  refine T.l_turned.fn.ok sc_l_turned (fun vs H Q E h => ?_) (fun cdv B outer s H vs Q E hr h => ?_)
  · obtain ⟨a, lp, fd, g, rfl, _⟩ := h
    rfl
  · obtain ⟨a, lp, fd, g, rfl, wf, ln, k⟩ := h
    obtain ⟨dx, hx⟩ := ln.ins
    refine ⟨_, pss_cons (ps_set (i := 1) sc_l_turned.nd rfl (.inr rfl) (pe_meth0 (pv 0) T.clL T.l_many.m (ok_l_many T) (hr.mono (by decide)) T.l_many.b .nil pass0))
      (pss_one (ps_ret (pe_make T.mkL (ok_l_init T) hr (by rfl) T.gL T.l_init.b .nil pass0 (pa_cons
        (pe_lc (own := [("point", 2)]) (g := gName 2) (tt := tYes) rfl sc_l_turned.nd (pi_list (pe_revL (pe_fld (pv 0) rfl)))
          (blkOk_by (own := [("point", 2)]) (N := ["self", "many", "point"]) (sc := defScope s_l_turned) (by decide +kernel))
          (fun _ _ _ _ _ => pg_name (i := 2) sc_l_turned.nd rfl (Or.inl rfl)) (fun _ _ _ _ _ => pts_nil)
          (fun _ _ _ _ _ => pe_op op_sub (pv 1) (pv 2))) pa_nil)))), ?_⟩
    refine ⟨_, rfl, a, dx, _, rfl, hx, lnF_no _ _ (by decide +kernel) (by decide +kernel), a, lp, fd, g, rfl, wf, ln, ?_⟩
    refine ⟨_, rfl, a, _, dx, _, _, rfl, hx, T.clL, T.nPoints, lnF_points _ _, lp, _, rfl, SqL.of ln.pts, fun r hr' => ?_⟩
    refine ⟨r, rfl, ⟨_, SqL.of upd_same⟩, fun D hD => ?_⟩
    have hD0 : H D = none := by
      rw [upd_ne (ne_of_none upd_same hD).symm] at hD
      exact hD
    have hrD : r ≠ D := ne_of_none upd_same hD
    refine lc_list (K := K) (a := r) (xs := (ptsV g.to).reverse) (fun i H' => Same H H' ∧ H' r = some (.lst (ptsV g.to).reverse) ∧ H' D = some (.lst (natV ((g.to.reverse.take i).map fun v => g.n - v))))
      ⟨same_upd (same_new hr') hD0, by rw [upd_ne hrD, upd_same], upd_same⟩ (fun i H' _ q => SqL.of q.2.1) ?_ ?_
    · rintro i y H' hy ⟨s1, h1, h2⟩
      have er : (ptsV g.to).reverse = ptsV g.to.reverse := by unfold ptsV; rw [List.map_reverse]
      rw [er] at hy
      unfold ptsV at hy
      rw [List.getElem?_map] at hy
      cases e : g.to.reverse[i]? with
      | none =>
        rw [e] at hy
        cases hy
      | some v =>
        rw [e] at hy
        have hy' : V.int (v : Int) = y := Option.some.inj hy
        subst hy'
        have hv : v ≤ g.n := wf.all v (List.mem_reverse.mp (List.mem_of_getElem? e))
        have hi : i < g.to.reverse.length := (List.getElem?_eq_some_iff.mp e).1
        rw [List.length_reverse, wf.len] at hi
        have h6 := wf.six
        refine ⟨rfl, _, rfl, _, rfl, _, _, rfl, rfl, _, h2, line_lt ?_, same_upd s1 hD0, by rw [upd_ne hrD]; exact h1, ?_⟩
        · rw [natV_len, List.length_map, List.length_take]
          omega
        · rw [upd_same, List.take_add_one, e]
          unfold natV
          rw [List.map_append, List.map_append]
          show some (HO.lst (_ ++ [V.int ((g.n : Int) - (v : Int))])) = some (HO.lst (_ ++ [V.int ((g.n - v : Nat) : Int)]))
          have ee : (g.n : Int) - (v : Int) = ((g.n - v : Nat) : Int) := by omega
          rw [ee]
    · rintro H' ⟨s1, h1, h2⟩
      intro x dx' nx ndx nex
      have ht : g.to.reverse.take (ptsV g.to).reverse.length = g.to.reverse := by
        apply List.take_of_length_le
        rw [List.length_reverse, List.length_reverse, ptsV_length]
        exact Nat.le_refl _
      rw [ht, ← FL.turned_to wf] at h2
      refine ⟨x, dx', D, rfl, upd_same, fun fd' H1 kp hfd h3 h4 => ⟨rfl, ?_⟩⟩
      obtain ⟨s2, l2⟩ := ln_made (g := g.turned) nx ndx h2 kp h3
      have hfd' : H' fd' = none := by
        have q1 : x ≠ fd' := ne_of_none upd_same hfd
        rw [upd_ne q1.symm] at hfd
        by_cases q2 : fd' = dx'
        · rw [q2]; exact ndx
        · rw [upd_ne q2] at hfd
          exact hfd
      exact k x D fd' H1 (s1.trans s2) (s1.free nx) (s1.free hfd') l2 h4
end
end FW

namespace FW
open PySem PySem.Spec PyProof.Rows L2
open Su183 (Abs Frac)
open FL (WF Pl)
section
variable {P : Program} {w : World} {K : PySem.W.Frag} {mg : Str → Option Value} {base : Heap} {A : Ad}

/-! ## parted -/
def spParted : Sp := fun vs H Q _ => ∃ k : Nat, vs = [.int (k : Int)] ∧ 0 < k ∧ k ≤ 1000 ∧
  ∀ p H', Same H H' → H p = none → H' p = some (.tup [.int ((2 ^ Su183.twos k k : Nat) : Int), .int (Su183.oddPart k : Int)]) → Q (.ref p) H'
theorem sc_parted : FnScope ["number", "power"] ["number"] (defScope s_parted) := ⟨rfl, rfl, rfl, by decide +kernel, rfl, by decide +kernel, by decide +kernel⟩
theorem ok_parted (T : Txt K mg A) : FnOk P w K mg base CX0 1 A.parted.a A.parted.d ["number"] spParted := by
  refine T.parted.fn.ok sc_parted (fun vs H Q E h => ?_) (fun cdv B outer s H vs Q E hr h => ?_)
  · obtain ⟨k, rfl, _⟩ := h
    rfl
  · obtain ⟨k, rfl, k0, k1, kk⟩ := h
    refine ⟨_, pss_cons (ps_set (i := 1) sc_parted.nd rfl (.inl rfl) pe_int)
      (pss_cons (ps_while PassesOwn.never (pt_cmpR op_eq (pe_op op_mod (pv 0) pe_int) pe_int (nomark _))
        (pss_cons (ps_set (i := 0) sc_parted.nd rfl (.inl rfl) (pe_op op_fdiv (pv 0) pe_int))
          (pss_one (ps_set (i := 1) sc_parted.nd rfl (.inl rfl) (pe_op op_mul pe_int (pv 1))))))
      (pss_one (ps_ret (pe_tup (pa_cons (pv 1) (pa_cons (pv 0) pa_nil)))))), ?_⟩
    refine ⟨fun m σ H' => H' = H ∧ ∃ e, σ = [some (.int (m : Int)), some (.int ((2 ^ e : Nat) : Int))] ∧ k = 2 ^ e * m ∧ 0 < m, ⟨k, rfl, 0, rfl, by simp, k0⟩, ?_⟩
    rintro m σ H' ⟨eH, e, rfl, hk, m0⟩
    subst eH
    refine ⟨_, rfl, _, _, rfl, rfl, (by show (0 : Int) < 2; decide), rfl, _, rfl, ?_⟩
    refine ite2 (fun c => ?_) (fun c => ?_)
    · have c1 : V.int ((m : Int) % 2) = V.int 0 := of_decide_eq_true c
      have c2 : (m : Int) % 2 = 0 := by injection c1
      refine ⟨_, fun _ _ q => q, ?_⟩
      refine ⟨_, rfl, _, _, rfl, rfl, ⟨by decide, by decide⟩, _, rfl, _, _, rfl, rfl, .inl ⟨by decide, by decide⟩, ?_⟩
      refine ⟨m / 2, by omega, rfl, e + 1, ?_, ?_, by omega⟩
      · show [some (V.int ((m : Int) / 2)), some (V.int (2 * ((2 ^ e : Nat) : Int)))] = [some (V.int ((m / 2 : Nat) : Int)), some (V.int ((2 ^ (e + 1) : Nat) : Int))]
        have e1 : (m : Int) / 2 = ((m / 2 : Nat) : Int) := by omega
        have e2 : 2 * ((2 ^ e : Nat) : Int) = ((2 ^ (e + 1) : Nat) : Int) := by
          rw [Nat.pow_succ]
          omega
        rw [e1, e2]
      · rw [hk, Nat.pow_succ, Nat.mul_assoc]
        congr 1
        omega
    · have c2 : (m : Int) % 2 ≠ 0 := fun z => c (by
        show decide (V.int ((m : Int) % 2) = V.int 0) = true
        rw [z]
        exact decide_eq_true rfl)
      obtain ⟨e1, e2⟩ := FL.parted_unique k0 hk (by omega)
      refine ⟨_, rfl, _, rfl, line_le (by show 2 ≤ 16777216; decide), fun p hp => ?_⟩
      refine kk p _ (same_new hp) hp ?_
      rw [upd_same, ← e1, ← e2]

/-! ## brings -/
def spBrings : Sp := fun vs H Q _ => ∃ k l : Nat, vs = [.int (k : Int), .int (l : Int)] ∧ 0 < k ∧ k ≤ 1000 ∧ 0 < l ∧ l ≤ 1000 ∧ ∀ H', Same H H' → Q (.bl (Su183.brings k l)) H'
theorem sc_brings : FnScope ["k", "l", "power", "odd", "others_power", "others_odd"] ["k", "l"] (defScope s_brings) := ⟨rfl, rfl, rfl, by decide +kernel, rfl, by decide +kernel, by decide +kernel⟩
theorem odd_spec {k : Nat} (k0 : 0 < k) : k = 2 ^ Su183.twos k k * Su183.oddPart k := by
  obtain ⟨h, _⟩ := FL.twos_spec k k (Nat.le_refl _) k0
  unfold Su183.oddPart
  exact (Nat.mul_div_cancel' h).symm
theorem ok_brings (T : Txt K mg A) : FnOk P w K mg base CX0 2 A.brings.a A.brings.d ["k", "l"] spBrings := by
  refine T.brings.fn.ok sc_brings (fun vs H Q E h => ?_) (fun cdv B outer s H vs Q E hr h => ?_)
  · obtain ⟨k, l, rfl, _⟩ := h
    rfl
  · obtain ⟨k, l, rfl, k0, k1, l0, l1, kk⟩ := h
    refine ⟨_, pss_cons (ps_asg (pe_call (ok_parted T) hr (by rfl) T.parted.mg T.parted.fn.kp T.parted.b .nil pass0 (pa_cons (pv 0) pa_nil)) (pg_tup (by rfl) (pgs_cons (pg_name (i := 2) sc_brings.nd rfl (.inl rfl)) (pgs_cons (pg_name (i := 3) sc_brings.nd rfl (.inl rfl)) pgs_nil))))
      (pss_cons (ps_asg (pe_call (ok_parted T) hr (by rfl) T.parted.mg T.parted.fn.kp T.parted.b .nil pass0 (pa_cons (pv 1) pa_nil)) (pg_tup (by rfl) (pgs_cons (pg_name (i := 4) sc_brings.nd rfl (.inl rfl)) (pgs_cons (pg_name (i := 5) sc_brings.nd rfl (.inl rfl)) pgs_nil))))
      (pss_cons (ps_if (pt_cmpR op_eq (pv 0) (pv 1) (nomark _)) (pss_one (ps_ret pe_bl)) pss_nil)
      (pss_cons (ps_if (pt_cmpR op_eq (pv 3) pe_int (nomark _)) (pss_one (ps_ret (pe_and (pe_cmpR op_eq (pv 5) pe_int (nomark _)) (pe_one (pe_cmpR op_lt (pv 1) (pv 0) (nomark _)))))) pss_nil)
      (pss_cons (ps_if (PW.pt (pw_or (pt_cmpR op_eq (pv 5) pe_int (nomark _)) (pw_or1 (pt_cmpR op_lt (pv 2) (pv 4) (nomark _))))) (pss_one (ps_ret pe_bl)) pss_nil)
      (pss_one (ps_ret (pe_and (pe_cmpR op_eq (pv 2) (pv 4) (nomark _)) (pe_one (pe_cmpR op_lt (pv 3) (pv 5) (nomark _)))))))))), ?_⟩
    have hk := odd_spec k0
    have hl := odd_spec l0
    have eb : Su183.brings k l = (decide (0 < k) && (decide (0 < l) && (k == l || (if Su183.oddPart k = 1 then Su183.oddPart l == 1 && decide (Su183.twos l l < Su183.twos k k) else Su183.oddPart l == 1 || (decide (Su183.twos k k < Su183.twos l l) || (Su183.twos k k == Su183.twos l l && decide (Su183.oddPart k < Su183.oddPart l))))))) := rfl
    rw [decide_eq_true k0, decide_eq_true l0, Bool.true_and, Bool.true_and] at eb
    refine ⟨_, rfl, k, rfl, k0, k1, fun p1 H1 s1 n1 h1 => ?_⟩
    refine ⟨p1, _, rfl, SqT.of h1, rfl, _, _, rfl, _, _, rfl, rfl, ?_⟩
    refine ⟨_, rfl, l, rfl, l0, l1, fun p2 H2 s2 n2 h2 => ?_⟩
    refine ⟨p2, _, rfl, SqT.of h2, rfl, _, _, rfl, _, _, rfl, rfl, ?_⟩
    have kk := kk H2 (s1.trans s2)
    rw [eb] at kk
    have pl := FL.pow_lt_iff (Su183.twos l l) (Su183.twos k k)
    have pl2 := FL.pow_lt_iff (Su183.twos k k) (Su183.twos l l)
    have pe := FL.pow_eq_iff (Su183.twos k k) (Su183.twos l l)
    generalize Su183.twos k k = tk at *
    generalize Su183.twos l l = tl at *
    generalize Su183.oddPart k = ok at *
    generalize Su183.oddPart l = ol at *
    generalize 2 ^ tk = pk at *
    generalize 2 ^ tl = pl' at *
    refine ⟨_, rfl, _, rfl, rfl, _, rfl, ?_⟩
    refine ite2 (fun c => ?_) (fun c => ?_)
    · have c1 : V.int (k : Int) = V.int (l : Int) := of_decide_eq_true c
      have c2 : k = l := by
        injection c1 with c1
        omega
      have e : (k == l) = true := by rw [c2]; exact beq_self_eq_true l
      rw [e, Bool.true_or] at kk
      exact kk
    · have c2 : k ≠ l := fun z => c (by
        show decide (V.int (k : Int) = V.int (l : Int)) = true
        rw [z]
        exact decide_eq_true rfl)
      have e : (k == l) = false := beq_eq_false_iff_ne.mpr c2
      rw [e, Bool.false_or] at kk
      refine ⟨_, rfl, rfl, _, rfl, ?_⟩
      refine ite2 (fun d => ?_) (fun d => ?_)
      · have d1 : V.int (ok : Int) = V.int 1 := of_decide_eq_true d
        have d2 : ok = 1 := by
          injection d1 with d1
          omega
        rw [if_pos d2] at kk
        refine ⟨_, rfl, rfl, _, rfl, ?_⟩
        refine ite2 (fun f => ?_) (fun f => ?_)
        · have f1 : V.int (ol : Int) = V.int 1 := of_decide_eq_true f
          have f2 : ol = 1 := by
            injection f1 with f1
            omega
          refine ⟨_, rfl, _, rfl, _, _, rfl, rfl, ?_⟩
          have q : (ol == 1 && decide (tl < tk)) = decide ((l : Int) < (k : Int)) := by
            rw [f2]
            show (true && decide (tl < tk)) = _
            rw [Bool.true_and]
            apply decide_eq_decide.mpr
            rw [d2] at hk
            rw [f2] at hl
            rw [← pl]
            omega
          rw [q] at kk
          exact kk
        · have f2 : ol ≠ 1 := fun z => f (by
            show decide (V.int (ol : Int) = V.int 1) = true
            rw [z]
            exact decide_eq_true rfl)
          have q : (ol == 1 && decide (tl < tk)) = false := by
            rw [beq_eq_false_iff_ne.mpr f2, Bool.false_and]
          rw [q] at kk
          exact kk
      · have d2 : ok ≠ 1 := fun z => d (by
          show decide (V.int (ok : Int) = V.int 1) = true
          rw [z]
          exact decide_eq_true rfl)
        rw [if_neg d2] at kk
        refine ⟨_, rfl, rfl, _, rfl, ?_⟩
        refine ite2 (fun f => ?_) (fun f => ?_)
        · have f1 : V.int (ol : Int) = V.int 1 := of_decide_eq_true f
          have f2 : ol = 1 := by
            injection f1 with f1
            omega
          rw [f2] at kk
          refine iteT ?_
          exact kk
        · have f2 : ol ≠ 1 := fun z => f (by
            show decide (V.int (ol : Int) = V.int 1) = true
            rw [z]
            exact decide_eq_true rfl)
          rw [beq_eq_false_iff_ne.mpr f2, Bool.false_or] at kk
          refine ⟨_, rfl, _, rfl, _, _, rfl, rfl, _, rfl, ?_⟩
          refine ite2 (fun u => ?_) (fun u => ?_)
          · have u1 : (pk : Int) < (pl' : Int) := of_decide_eq_true u
            rw [decide_eq_true (pl2.mp (by omega)), Bool.true_or] at kk
            exact kk
          · have u1 : ¬ (pk : Int) < (pl' : Int) := fun z => u (decide_eq_true z)
            rw [decide_eq_false (fun z => u1 (by have := pl2.mpr z; omega)), Bool.false_or] at kk
            refine ⟨_, rfl, _, rfl, rfl, _, rfl, ?_⟩
            refine ite2 (fun y => ?_) (fun y => ?_)
            · have y1 : V.int (pk : Int) = V.int (pl' : Int) := of_decide_eq_true y
              have y2 : pk = pl' := by
                injection y1 with y1
                omega
              have q : (tk == tl) = true := by rw [pe.mp y2]; exact beq_self_eq_true tl
              rw [q, Bool.true_and] at kk
              refine ⟨_, rfl, _, rfl, _, _, rfl, rfl, ?_⟩
              have q2 : decide (ok < ol) = decide ((ok : Int) < (ol : Int)) := decide_eq_decide.mpr (by omega)
              rw [q2] at kk
              exact kk
            · have y2 : pk ≠ pl' := fun z => y (by
                show decide (V.int (pk : Int) = V.int (pl' : Int)) = true
                rw [z]
                exact decide_eq_true rfl)
              have q : (tk == tl) = false := beq_eq_false_iff_ne.mpr fun z => y2 (pe.mpr z)
              rw [q, Bool.false_and] at kk
              exact kk
end
end FW

namespace FW
open PySem PySem.Spec PyProof.Rows L2
open Su183 (Abs Frac)
open FL (WF Pl)
/-! ## Walks of pieces in the heap -/
def WkAt (H : Hp) (v : V) (w : List Nat) : Prop := ∃ t, v = .ref t ∧ H t = some (.tup (natV w))
abbrev Wks (H : Hp) : List V → List (List Nat) → Prop := Paired (WkAt H)
theorem Wks.same {H H' : Hp} (s : Same H H') {vs : List V} {ws : List (List Nat)} (r : Wks H vs ws) : Wks H' vs ws := Paired.mono (fun _ _ ⟨t, e, h⟩ => ⟨t, e, s _ _ h⟩) r
/-- a list is stored over: what tuples there are stays -/
theorem Wks.over {H : Hp} {D : Addr} {xs ys : List V} (h : H D = some (.lst xs)) {vs : List V} {ws : List (List Nat)} (r : Wks H vs ws) : Wks (upd H D (.lst ys)) vs ws :=
  Paired.mono (fun _ _ ⟨t, e, q⟩ => ⟨t, e, by rw [upd_ne (ne_of q h (by intro z; cases z))]; exact q⟩) r
theorem paired_append {α β : Type} {F : α → β → Prop} : ∀ {xs : List α} {ys : List β} {xs' : List α} {ys' : List β}, Paired F xs ys → Paired F xs' ys' → Paired F (xs ++ xs') (ys ++ ys')
  | _, _, _, _, .nil, h => h
  | _, _, _, _, .cons h t, r => .cons h (paired_append t r)
theorem natV_append (a b : List Nat) : natV (a ++ b) = natV a ++ natV b := by unfold natV; rw [List.map_append]
theorem natV_get {l : List Nat} {i : Nat} {v : V} (h : (natV l)[i]? = some v) : ∃ j, l[i]? = some j ∧ v = .int (j : Int) := by
  unfold natV at h
  rw [List.getElem?_map] at h
  cases e : l[i]? with
  | none => rw [e] at h; cases h
  | some j =>
    rw [e] at h
    exact ⟨j, rfl, (Option.some.inj h).symm⟩
theorem natV_last {w : List Nat} (h : w ≠ []) : atI (natV w) (-1) = some (.int (FL.lastOf w : Int)) := by
  have e := List.dropLast_concat_getLast h
  rw [← e, natV_append, FL.lastOf_snoc]
  exact atI_last _ _
theorem natV_int (w : List Nat) : natV w = (w.map fun (v : Nat) => (v : Int)).map V.int := by
  unfold natV
  rw [List.map_map]
  rfl
theorem lex_cast : ∀ (a b : List Nat), HT.lexLt (a.map fun (v : Nat) => (v : Int)) (b.map fun (v : Nat) => (v : Int)) = FL.lexN a b
  | [], [] => rfl
  | [], _ :: _ => rfl
  | _ :: _, [] => rfl
  | x :: a, y :: b => by
    show (if (x : Int) = (y : Int) then HT.lexLt (a.map fun (v : Nat) => (v : Int)) (b.map fun (v : Nat) => (v : Int)) else decide ((x : Int) < (y : Int))) = (if x = y then FL.lexN a b else decide (x < y))
    rw [lex_cast a b]
    by_cases h : x = y
    · rw [if_pos h, if_pos (by omega)]
    · rw [if_neg h, if_neg (by omega)]
      apply decide_eq_decide.mpr
      omega
theorem cut_from (xs : List V) (k : Nat) : cutV xs (some (k : Int)) none = xs.drop k := by
  unfold cutV
  rw [HT.sIx_nat, HT.sIx_none]
  by_cases h : k ≤ xs.length
  · rw [Nat.min_eq_left h]
    apply List.take_of_length_le
    rw [List.length_drop]
    exact Nat.le_refl _
  · rw [Nat.min_eq_right (by omega), List.drop_length, List.drop_of_length_le (by omega)]
    simp
theorem cut_to (xs : List V) (k : Nat) (h : k ≤ xs.length) : cutV xs none (some (k : Int)) = xs.take k := by
  unfold cutV
  rw [HT.sIx_nat, HT.sIx_none, Nat.min_eq_left h]
  rfl
/-! ## rules whose reading names K alone (within a comprehension's block) -/
theorem op_catTK {X : Cx} {K : PySem.W.Frag} (e : X.K = K) : OpR X (binaryOp .Add) (rCatT K) := by subst e; exact op_catT
theorem op_ltTK {X : Cx} {K : PySem.W.Frag} (e : X.K = K) (hu : X.A.units < cLine) : OpR X (compareOp .Lt) (rLtT K) := by subst e; exact op_ltT hu
theorem sl_tupK {X : Cx} {K : PySem.W.Frag} (e : X.K = K) : SlR X (rSlT K) := by subst e; exact sl_tup
theorem ix_tupK {X : Cx} {K : PySem.W.Frag} (e : X.K = K) : IxR X (rIxT K) := by subst e; exact ix_tup
theorem ix_listK {X : Cx} {K : PySem.W.Frag} (e : X.K = K) : IxR X (rIxL K) := by subst e; exact ix_list
theorem pi_listK {X : Cx} {K : PySem.W.Frag} (e : X.K = K) {tg l : Expr} {tl : TE} (hl : PE X l tl) : PI X tg l (iList K tl) := by subst e; exact pi_list hl
theorem call_len_seqK {X : Cx} {K : PySem.W.Frag} (e : X.K = K) : CallR X (.builtin "len") (fun xs H Q => ∃ p ys, xs = [.ref p] ∧ (SqL K H p ys ∨ SqT K H p ys) ∧ Q (.int ys.length) H) := by subst e; exact call_len_seq
section
variable {P : Program} {w : World} {K : PySem.W.Frag} {mg : Str → Option Value} {base : Heap} {A : Ad}

/-! ## longer_walks -/
def spLonger (A : Ad) : Sp := fun vs H Q _ => ∃ (a lp fd lw : Addr) (g : Abs) (ws : List (List Nat)) (wv : List V) (least : Nat), vs = [.ref a, .ref lw, .int (least : Int)] ∧ WF g ∧ Ln A H a lp fd g ∧ H lw = some (.lst wv) ∧ Wks H wv ws ∧
  (∀ u ∈ ws, u ≠ [] ∧ FL.lastOf u < g.n ∧ u.length ≤ 10) ∧ ws.length ≤ 10000 ∧
  ∀ p rs H', Same H H' → H p = none → H' p = some (.lst rs) → Wks H' rs (FL.longer g least ws) → Q (.ref p) H'
theorem sc_longer_walks : FnScope ["line", "walks", "least", "found", "walk", "piece"] ["line", "walks", "least"] (defScope s_longer_walks) := ⟨rfl, rfl, rfl, by decide +kernel, rfl, by decide +kernel, by decide +kernel⟩
theorem covered_le (g : Abs) (j : Nat) : (FL.coveredBy g j).length ≤ g.n := filter_range_le g.n
theorem longer_le {g : Abs} (h : WF g) (least : Nat) (ws : List (List Nat)) : (FL.longer g least ws).length ≤ 6 * ws.length := by
  unfold FL.longer
  induction ws with
  | nil => simp
  | cons u ws ih =>
    rw [List.flatMap_cons, List.length_append, List.length_cons, List.length_map]
    have a := List.length_filter_le (fun i => decide (least ≤ i)) (FL.coveredBy g (FL.lastOf u))
    have b := covered_le g (FL.lastOf u)
    have c := h.six
    omega
theorem longer_snoc (g : Abs) (least : Nat) (ws : List (List Nat)) (u : List Nat) : FL.longer g least (ws ++ [u]) = FL.longer g least ws ++ ((FL.coveredBy g (FL.lastOf u)).filter fun i => decide (least ≤ i)).map fun i => u ++ [i] := by
  unfold FL.longer
  rw [List.flatMap_append]
  congr 1
  simp
theorem filter_take_succ {α : Type} {p : α → Bool} {l : List α} {i : Nat} {x : α} (h : l[i]? = some x) : (l.take (i + 1)).filter p = (l.take i).filter p ++ (if p x = true then [x] else []) := by
  rw [List.take_add_one, h, List.filter_append]
  congr 1
  simp only [Option.toList, List.filter_cons, List.filter_nil]
theorem ok_longer_walks (T : Txt K mg A) : FnOk P w K mg base CX0 3 A.longer_walks.a A.longer_walks.d ["line", "walks", "least"] (spLonger A) := by
  refine T.longer_walks.fn.ok sc_longer_walks (fun vs H Q E h => ?_) (fun cdv B outer s H vs Q E hr h => ?_)
  · obtain ⟨a, lp, fd, lw, g, ws, wv, least, rfl, _⟩ := h
    rfl
  · obtain ⟨a, lp, fd, lw, g, ws, wv, least, rfl, wf, ln, hw, hws, hu, hlen, kk⟩ := h
    refine ⟨_, pss_cons (ps_set (i := 3) sc_longer_walks.nd rfl (.inl rfl) (pe_lst pa_nil))
      (pss_cons (ps_for PassesOwn.never rfl (pi_list (pv 1)) (pg_name (i := 4) sc_longer_walks.nd rfl (.inr rfl))
        (pss_one (ps_expr (pe_bm PySem.F.plainAttrs_list PySem.F.slot_list_extend PySem.F.type_list_extend mt_extend (pv 3) (pa_cons
          (pe_lc (own := [("piece", 5)]) (g := gName 5) rfl sc_longer_walks.nd (pi_list (pe_meth (pv 0) T.clL T.l_covered.m (ok_l_covered T) hr T.l_covered.b .nil pass0 (pa_cons (pe_ix ix_tup (pv 4) (pe_un un_neg pe_int) (fun _ _ => rfl)) pa_nil)))
            (blkOk_by (own := [("piece", 5)]) (N := ["line", "walks", "least", "found", "walk", "piece"]) (sc := defScope s_longer_walks) (by decide +kernel))
            (fun _ _ _ _ _ => pg_name (i := 5) sc_longer_walks.nd rfl (Or.inl rfl))
            (fun _ _ _ _ _ => pts_one (pt_cmpR op_ge (pv 5) (pv 2) (nomark _)))
            (fun _ _ _ _ _ => pe_op (op_catTK (K := K) rfl) (pv 4) (pe_tup (pa_cons (pv 5) pa_nil)))) pa_nil)))))
      (pss_one (ps_ret (pv 3)))), ?_⟩
    have h6 := wf.six
    have lwl := Paired.length hws
    refine ⟨line_le (Nat.zero_le _), fun D hD => ?_⟩
    refine ⟨_, rfl, lw, rfl, ⟨_, SqL.of (by rw [upd_ne (ne_of_none hw hD)]; exact hw)⟩, ?_⟩
    refine for_list (K := K) (a := lw) (xs := wv) (fun i σ H' => ∃ v4 rs, σ = [some (.ref a), some (.ref lw), some (.int (least : Int)), some (.ref D), v4, none] ∧ Same H H' ∧ H' D = some (.lst rs) ∧ Wks H' rs (FL.longer g least (ws.take i)))
      ⟨none, [], rfl, same_new hD, upd_same, .nil⟩ (fun i σ H' _ ⟨_, _, _, s1, _⟩ => SqL.of (s1 _ _ hw)) ?_ ?_
    · rintro i v σ H' hv ⟨v4, rs, rfl, s1, h1, r1⟩
      obtain ⟨u, eu, tu, rfl, htu⟩ := paired_get hws hv
      obtain ⟨une, ult, ulen⟩ := hu u (List.mem_of_getElem? eu)
      have hi : i < ws.length := (List.getElem?_eq_some_iff.mp eu).1
      have l1 := ln.same s1
      obtain ⟨dx, hx⟩ := l1.ins
      refine ⟨_, rfl, .inl ⟨rfl, _, SqL.of h1⟩, ?_⟩
      refine ⟨_, rfl, a, dx, _, rfl, hx, lnF_no _ _ (by decide +kernel) (by decide +kernel), _, rfl, _, rfl, tu, _, _, _, rfl, rfl, SqT.of (s1 _ _ htu), natV_last une, a, lp, fd, g, FL.lastOf u, rfl, wf, l1, ult, fun c H2 s2 hc h2 => ?_⟩
      refine ⟨c, rfl, ⟨_, SqL.of h2⟩, fun C hC => ?_⟩
      have htu2 : H2 tu = some (.tup (natV u)) := s2 _ _ (s1 _ _ htu)
      refine lc_list (K := K) (a := c) (xs := natV (FL.coveredBy g (FL.lastOf u))) (fun j H3 => ∃ cs, Same H2 H3 ∧ H3 C = some (.lst cs) ∧ Wks H3 cs ((((FL.coveredBy g (FL.lastOf u)).take j).filter fun i => decide (least ≤ i)).map fun i => u ++ [i]))
        ⟨[], same_new hC, upd_same, .nil⟩ (fun j H3 _ ⟨_, s3, _⟩ => SqL.of (s3 _ _ h2)) ?_ ?_
      · rintro j y H3 hy ⟨cs, s3, h3, r3⟩
        obtain ⟨q, eq, rfl⟩ := natV_get hy
        have lc := Paired.length r3
        rw [List.length_map] at lc
        have lcl := List.length_filter_le (fun i => decide (least ≤ i)) ((FL.coveredBy g (FL.lastOf u)).take j)
        have lct : ((FL.coveredBy g (FL.lastOf u)).take j).length ≤ (FL.coveredBy g (FL.lastOf u)).length := by rw [List.length_take]; omega
        have lcg := covered_le g (FL.lastOf u)
        refine ⟨rfl, ?_⟩
        refine ⟨_, rfl, _, rfl, _, _, rfl, rfl, _, rfl, ?_⟩
        rw [filter_take_succ eq]
        refine ite2 (fun d => ?_) (fun d => ?_)
        · have d1 : (least : Int) ≤ (q : Int) := of_decide_eq_true d
          refine ⟨_, rfl, _, rfl, line_le (by show 1 ≤ 16777216; decide), fun t1 ht1 => ?_⟩
          refine ⟨tu, t1, natV u, _, rfl, rfl, SqT.of ((same_new ht1) _ _ (s3 _ _ htu2)), SqT.of upd_same, ?_, line_le ?_, (fun z => nomatch z), fun _ p hp => ?_⟩
          · intro z
            apply une
            unfold natV at z
            simpa using z
          · rw [natV_len]
            show u.length + 1 ≤ 16777216
            omega
          · have nCt1 : C ≠ t1 := ne_of_none h3 ht1
            have hC3 : (upd H3 t1 (.tup [.int (q : Int)])) C = some (.lst cs) := by rw [upd_ne nCt1]; exact h3
            have nCp : C ≠ p := ne_of_none hC3 hp
            have s5 : Same H3 (upd (upd H3 t1 (.tup [.int (q : Int)])) p (.tup (natV u ++ [.int (q : Int)]))) := (same_new ht1).trans (same_new hp)
            refine ⟨cs, by rw [upd_ne nCp]; exact hC3, line_lt (by omega), _, same_upd (s3.trans s5) hC, upd_same, ?_⟩
            have hd : decide (least ≤ q) = true := decide_eq_true (by omega)
            rw [if_pos hd, List.map_append]
            refine Paired.snoc (Wks.over (xs := cs) (by rw [upd_ne nCp]; exact hC3) (Wks.same s5 r3)) ⟨p, rfl, ?_⟩
            rw [upd_ne nCp.symm, upd_same, natV_append]
            rfl
        · have d1 : ¬ least ≤ q := fun z => d (decide_eq_true (show (least : Int) ≤ (q : Int) by omega))
          rw [if_neg (by rw [decide_eq_false d1]; exact Bool.false_ne_true), List.append_nil]
          exact ⟨cs, s3, h3, r3⟩
      · rintro H3 ⟨cs, s3, h3, r3⟩
        rw [natV_len, List.take_length] at r3
        have hD3 : H3 D = some (.lst rs) := s3 _ _ (s2 _ _ h1)
        have lr := Paired.length r1
        have ll := longer_le wf least (ws.take i)
        have llt : (ws.take i).length ≤ i := by rw [List.length_take]; omega
        have lcs := Paired.length r3
        rw [List.length_map] at lcs
        have lcl := List.length_filter_le (fun i => decide (least ≤ i)) (FL.coveredBy g (FL.lastOf u))
        have lcg := covered_le g (FL.lastOf u)
        refine ⟨D, C, _, _, rfl, rfl, hD3, h3, line_le (by omega), ?_⟩
        refine ⟨_, _, rfl, same_upd (s1.trans (s2.trans s3)) hD, upd_same, ?_⟩
        rw [List.take_add_one, eu]
        show Wks _ _ (FL.longer g least (ws.take i ++ [u]))
        rw [longer_snoc]
        exact paired_append (Wks.over hD3 (Wks.same (s2.trans s3) r1)) (Wks.over hD3 r3)
    · rintro σ H' ⟨v4, rs, rfl, s1, h1, r1⟩
      refine ⟨_, rfl, ?_⟩
      rw [lwl, List.take_length] at r1
      exact kk D rs H' s1 hD h1 r1

/-! ## is_least_turn -/
def spLeast : Sp := fun vs H Q _ => ∃ (t : Addr) (u : List Nat), vs = [.ref t] ∧ H t = some (.tup (natV u)) ∧ u ≠ [] ∧ u.length ≤ 10 ∧ ∀ H', Same H H' → Q (.bl (FL.isLeast u)) H'
theorem sc_is_least_turn : FnScope ["walk", "at"] ["walk"] (defScope s_is_least_turn) := ⟨rfl, rfl, rfl, by decide +kernel, rfl, by decide +kernel, by decide +kernel⟩
theorem isLeast_eq {u : List Nat} : FL.isLeast u = ((List.range (u.length - 1)).map fun i => FL.lexN u (FL.rt u (1 + i))).all id := by
  unfold FL.isLeast
  rw [List.all_map, List.range'_eq_map_range, List.all_map]
  rfl
theorem ok_is_least_turn (T : Txt K mg A) : FnOk P w K mg base CX0 1 A.is_least_turn.a A.is_least_turn.d ["walk"] spLeast := by
  refine T.is_least_turn.fn.ok sc_is_least_turn (fun vs H Q E h => ?_) (fun cdv B outer s H vs Q E hr h => ?_)
  · obtain ⟨t, u, rfl, _⟩ := h
    rfl
  · obtain ⟨t, u, rfl, ht, une, ulen, kk⟩ := h
    have hu : (B.deeper (envOfC (Str.ofString "is_least_turn") (defScope s_is_least_turn) s.heap.objs.size A.is_least_turn.a cdv)).units < cLine := hr.units0
    refine ⟨_, pss_one (ps_ret (pe_callB (cr_all rfl) (by rfl) T.b_all (by decide +kernel) (pa_cons
      (pe_lc (own := [("at", 1)]) (g := gName 1) (tt := tYes) rfl sc_is_least_turn.nd (pi_range2 (by rfl) T.b_range (pa_cons pe_int (pa_cons (pe_callB call_len_seq (by rfl) T.b_len PySem.boot_len (pa_cons (pv 0) pa_nil)) pa_nil)))
        (blkOk_by (own := [("at", 1)]) (N := ["walk", "at"]) (sc := defScope s_is_least_turn) (by decide +kernel))
        (fun _ _ _ _ _ => pg_name (i := 1) sc_is_least_turn.nd rfl (Or.inl rfl)) (fun _ _ _ _ _ => pts_nil)
        (fun _ _ _ _ _ => pe_cmpR (op_ltTK (K := K) rfl hu) (pv 0) (pe_op (op_catTK (K := K) rfl) (pe_slice (sl_tupK (K := K) rfl) (pv 0) (po_some (pv 1)) po_none) (pe_slice (sl_tupK (K := K) rfl) (pv 0) po_none (po_some (pv 1)))) (nomark _))) pa_nil))), ?_⟩
    have l0 : 0 < u.length := by
      cases u with
      | nil => exact absurd rfl une
      | cons _ _ => simp
    refine ⟨_, rfl, t, _, rfl, .inr (SqT.of ht), _, _, rfl, ⟨by decide, by decide, ?_, ?_⟩, fun D hD => ?_⟩
    · rw [natV_len]; omega
    · rw [natV_len]; omega
    · have en : (((natV u).length : Int) - 1).toNat = u.length - 1 := by rw [natV_len]; omega
      rw [en]
      refine lc_range (lo := 1) (n := u.length - 1) (fun i H' => Same H H' ∧ H' D = some (.lst (((List.range i).map fun i => FL.lexN u (FL.rt u (1 + i))).map V.bl))) ⟨same_new hD, upd_same⟩ ?_ ?_
      · rintro i H' hi ⟨s1, h1⟩
        have ht1 := s1 _ _ ht
        have e1 : (1 : Int) + (i : Int) = ((1 + i : Nat) : Int) := by omega
        refine ⟨rfl, ?_⟩
        refine ⟨_, rfl, ?_⟩
        refine ⟨_, rfl, _, rfl, _, rfl, t, _, rfl, SqT.of ht1, ?_, fun p1 hp1 => ?_⟩
        · rw [e1, HT.sIx_nat, HT.sIx_none, natV_len]
          omega
        · refine ⟨_, rfl, _, rfl, _, rfl, t, _, rfl, SqT.of (same_new hp1 _ _ ht1), ?_, fun p2 hp2 => ?_⟩
          · rw [e1, HT.sIx_nat, HT.sIx_none, natV_len]
            omega
          · have k2 := same_new (H := upd H' p1 (.tup (cutV (natV u) (some (1 + (i : Int))) none))) (o := .tup (cutV (natV u) none (some (1 + (i : Int))))) hp2
            have c1 : cutV (natV u) (some (1 + (i : Int))) none = natV (u.drop (1 + i)) := by
              rw [e1, cut_from]
              unfold natV
              rw [List.map_drop]
            have c2 : cutV (natV u) none (some (1 + (i : Int))) = natV (u.take (1 + i)) := by
              rw [e1, cut_to _ _ (by rw [natV_len]; omega)]
              unfold natV
              rw [List.map_take]
            have q1 := k2 _ _ upd_same
            rw [c1, c2] at q1
            rw [c1, c2] at k2 ⊢
            refine ⟨p1, p2, _, _, rfl, rfl, SqT.of q1, SqT.of upd_same, ?_, line_le ?_, ?_, fun _ p hp => ?_⟩
            · intro z
              have := congrArg List.length z
              rw [natV_len, List.length_drop, List.length_nil] at this
              omega
            · rw [natV_len, natV_len, List.length_drop, List.length_take]
              omega
            · intro z
              have := congrArg List.length z
              rw [natV_len, List.length_take, List.length_nil] at this
              omega
            · have s3 : Same H' (upd (upd (upd H' p1 (.tup (natV (u.drop (1 + i))))) p2 (.tup (natV (u.take (1 + i))))) p (.tup (natV (u.drop (1 + i)) ++ natV (u.take (1 + i))))) := by
                rw [c1] at hp2
                exact ((same_new hp1).trans k2).trans (same_new hp)
              refine ⟨t, p, u.map fun (v : Nat) => (v : Int), (FL.rt u (1 + i)).map fun (v : Nat) => (v : Int), rfl, rfl, ?_, ?_, ?_⟩
              · rw [← natV_int]
                exact SqT.of (s3 _ _ ht1)
              · rw [← natV_int]
                unfold FL.rt
                rw [natV_append]
                exact SqT.of upd_same
              · rw [lex_cast]
                refine ⟨_, s3 _ _ h1, line_lt ?_, same_upd (s1.trans s3) hD, ?_⟩
                · rw [List.length_map, List.length_map, List.length_range]
                  omega
                · rw [upd_same, List.range_succ, List.map_append, List.map_append]
                  rfl
      · rintro H' ⟨s1, h1⟩
        refine ⟨D, _, rfl, SqL.of h1, ?_⟩
        rw [← isLeast_eq]
        exact kk H' s1
end
end FW

namespace FW
open PySem PySem.Spec PyProof.Rows L2
open Su183 (Abs Frac)
open FL (WF Pl)
/-- both ways of a test lead to one thing -/
theorem ite_join {c A B G : Prop} [Decidable c] (h1 : c → G → A) (h2 : ¬ c → G → B) (g : G) : if c then A else B := by
  by_cases h : c
  · rw [if_pos h]
    exact h1 h g
  · rw [if_neg h]
    exact h2 h g
def intV (l : List Int) : List V := l.map V.int
theorem intV_len (l : List Int) : (intV l).length = l.length := by unfold intV; simp
theorem intV_append (a b : List Int) : intV (a ++ b) = intV a ++ intV b := by unfold intV; rw [List.map_append]
/-- a round in the heap -/
def RdAt (H : Hp) (v : V) (r : FL.Rd) : Prop := ∃ t q, v = .ref t ∧ H t = some (.tup [.ref q, .int r.2]) ∧ H q = some (.lst (intV r.1))
theorem RdAt.same {H H' : Hp} (s : Same H H') {v : V} {r : FL.Rd} (h : RdAt H v r) : RdAt H' v r := by
  obtain ⟨t, q, e, h1, h2⟩ := h
  exact ⟨t, q, e, s _ _ h1, s _ _ h2⟩
/-- a new round: its list wasn't there in H -/
def RdNew (H H' : Hp) (v : V) (r : FL.Rd) : Prop := ∃ t q, v = .ref t ∧ H q = none ∧ H' t = some (.tup [.ref q, .int r.2]) ∧ H' q = some (.lst (intV r.1))
theorem RdNew.at {H H' : Hp} {v : V} {r : FL.Rd} (h : RdNew H H' v r) : RdAt H' v r := by
  obtain ⟨t, q, e, _, h1, h2⟩ := h
  exact ⟨t, q, e, h1, h2⟩
theorem RdNew.back {H H1 H' : Hp} (s : Same H H1) {v : V} {r : FL.Rd} (h : RdNew H1 H' v r) : RdNew H H' v r := by
  obtain ⟨t, q, e, n, h1, h2⟩ := h
  exact ⟨t, q, e, s.free n, h1, h2⟩
theorem walksFrom_ok {g : Abs} {least : Nat} (hl : least < g.n) {s : Nat} {u : List Nat} (h : u ∈ FL.walksFrom g least s) : u ≠ [] ∧ FL.lastOf u < g.n ∧ u.length = s + 1 := by
  obtain ⟨r, rfl, hr, hc, _⟩ := (FL.mem_walksFrom s u).mp h
  refine ⟨by simp, ?_, by simp [hr]⟩
  have all : ∀ (r : List Nat) (j : Nat), j < g.n → FL.Cv g j r → FL.lastOf (j :: r) < g.n := by
    intro r
    induction r with
    | nil => intro j hj _; exact hj
    | cons i r ih =>
      intro j hj hc
      rw [FL.lastOf_cons2]
      exact ih i hc.2.1 hc.2.2
  exact all r least hl hc
theorem walksFrom_len {g : Abs} (h : WF g) (least : Nat) : ∀ s, (FL.walksFrom g least s).length ≤ 6 ^ s
  | 0 => by
    show 1 ≤ 1
    exact Nat.le_refl 1
  | s + 1 => by
    have a := longer_le h least (FL.walksFrom g least s)
    have b := walksFrom_len h least s
    show (FL.longer g least (FL.walksFrom g least s)).length ≤ 6 ^ (s + 1)
    rw [Nat.pow_succ]
    omega
theorem closedFrom_len {g : Abs} (h : WF g) {k : Nat} (k6 : k ≤ 6) (least : Nat) : (FL.closedFrom g k least).length ≤ 7776 := by
  unfold FL.closedFrom
  have a := List.length_filter_le (fun u => g.covers (FL.lastOf u) least && FL.isLeast u) (FL.walksFrom g least (k - 1))
  have b := walksFrom_len h least (k - 1)
  have c : 6 ^ (k - 1) ≤ 6 ^ 5 := Nat.pow_le_pow_right (by decide) (by omega)
  have d : 6 ^ 5 = 7776 := by decide
  omega
theorem flat_len {g : Abs} (h : WF g) {k : Nat} (k6 : k ≤ 6) : ∀ i, ((List.range i).flatMap (FL.closedFrom g k)).length ≤ 7776 * i
  | 0 => by simp
  | i + 1 => by
    rw [List.range_succ, List.flatMap_append, List.length_append]
    have a := flat_len h k6 i
    have b := closedFrom_len h k6 i
    simp only [List.flatMap_cons, List.flatMap_nil, List.append_nil]
    omega
section
variable {P : Program} {w : World} {K : PySem.W.Frag} {mg : Str → Option Value} {base : Heap} {A : Ad}

/-! ## closed_walks -/
def spClosed (A : Ad) : Sp := fun vs H Q _ => ∃ (a lp fd : Addr) (g : Abs) (k : Nat), vs = [.ref a, .int (k : Int)] ∧ WF g ∧ Ln A H a lp fd g ∧ 0 < k ∧ k ≤ 6 ∧
  ∀ p rs H', Same H H' → H p = none → H' p = some (.lst rs) → Wks H' rs (FL.closedWalks g k) → Q (.ref p) H'
theorem sc_closed_walks : FnScope ["line", "k", "found", "least", "walks", "step", "walk"] ["line", "k"] (defScope s_closed_walks) := ⟨rfl, rfl, rfl, by decide +kernel, rfl, by decide +kernel, by decide +kernel⟩
theorem ok_closed_walks (T : Txt K mg A) : FnOk P w K mg base CX0 4 A.closed_walks.a A.closed_walks.d ["line", "k"] (spClosed A) := by
  refine T.closed_walks.fn.ok sc_closed_walks (fun vs H Q E h => ?_) (fun cdv B outer s H vs Q E hr h => ?_)
  · obtain ⟨a, lp, fd, g, k, rfl, _⟩ := h
    rfl
  · obtain ⟨a, lp, fd, g, k, rfl, wf, ln, k0, k6, kk⟩ := h
    refine ⟨_, pss_cons (ps_set (i := 2) sc_closed_walks.nd rfl (.inl rfl) (pe_lst pa_nil))
      (pss_cons (ps_for PassesOwn.never rfl (pi_range1 (by rfl) T.b_range (pa_cons (pe_meth0 (pv 0) T.clL T.l_many.m (ok_l_many T) (hr.mono (by decide)) T.l_many.b .nil pass0) pa_nil)) (pg_name (i := 3) sc_closed_walks.nd rfl (.inr rfl))
        (pss_cons (ps_set (i := 4) sc_closed_walks.nd rfl (.inl rfl) (pe_lst (pa_cons (pe_tup (pa_cons (pv 3) pa_nil)) pa_nil)))
        (pss_cons (ps_for PassesOwn.never rfl (pi_range1 (by rfl) T.b_range (pa_cons (pe_op op_sub (pv 1) pe_int) pa_nil)) (pg_name (i := 5) sc_closed_walks.nd rfl (.inl rfl))
          (pss_one (ps_set (i := 4) sc_closed_walks.nd rfl (.inl rfl) (pe_call (ok_longer_walks T) hr (by rfl) T.longer_walks.mg T.longer_walks.fn.kp T.longer_walks.b .nil pass0 (pa_cons (pv 0) (pa_cons (pv 4) (pa_cons (pv 3) pa_nil)))))))
        (pss_one (ps_expr (pe_bm PySem.F.plainAttrs_list PySem.F.slot_list_extend PySem.F.type_list_extend mt_extend (pv 2) (pa_cons
          (pe_lc (own := [("walk", 6)]) (g := gName 6) rfl sc_closed_walks.nd (pi_list (pv 4))
            (blkOk_by (own := [("walk", 6)]) (N := ["line", "k", "found", "least", "walks", "step", "walk"]) (sc := defScope s_closed_walks) (by decide +kernel))
            (fun _ _ _ _ _ => pg_name (i := 6) sc_closed_walks.nd rfl (Or.inl rfl))
            (fun _ _ _ _ _ => pts_one (PW.pt (pw_and (pt_val (pe_meth (pv 0) T.clL T.l_covers.m (ok_l_covers T) (hr.mono (by decide)) T.l_covers.b .nil pass0 (pa_cons (pe_ix (ix_tupK (K := K) rfl) (pv 6) (pe_un un_neg pe_int) (fun _ _ => rfl)) (pa_cons (pv 3) pa_nil))))
              (pw_and1 (pt_val (pe_call (ok_is_least_turn T) (hr.mono (by decide)) (by rfl) T.is_least_turn.mg T.is_least_turn.fn.kp T.is_least_turn.b .nil pass0 (pa_cons (pv 6) pa_nil)))))))
            (fun _ _ _ _ _ => pv 6)) pa_nil)))))))
      (pss_one (ps_ret (pv 2)))), ?_⟩
    have h6 := wf.six
    obtain ⟨dx0, hx0⟩ := ln.ins
    refine ⟨line_le (Nat.zero_le _), fun D hD => ?_⟩
    have l0 := ln.same (same_new (o := .lst []) hD)
    obtain ⟨dx, hx⟩ := l0.ins
    refine ⟨_, rfl, a, dx, _, rfl, hx, lnF_no _ _ (by decide +kernel) (by decide +kernel), a, lp, fd, g, rfl, wf, l0, _, rfl, by omega, by omega, ?_⟩
    refine for_range (lo := 0) (n := g.n) (fun i σ H' => ∃ v3 v4 v5 rs, σ = [some (.ref a), some (.int (k : Int)), some (.ref D), v3, v4, v5, none] ∧ Same H H' ∧ H' D = some (.lst rs) ∧ Wks H' rs ((List.range i).flatMap (FL.closedFrom g k)))
      ⟨none, none, none, [], rfl, same_new hD, upd_same, .nil⟩ ?_ ?_
    · rintro i σ H' hi ⟨v3, v4, v5, rs, rfl, s1, h1, r1⟩
      have e0 : (0 : Int) + (i : Int) = (i : Int) := by omega
      rw [e0]
      -- walks = [(least,)]
      refine ⟨_, rfl, line_le (by show 1 ≤ 16777216; decide), fun t ht => ⟨line_le (by show 1 ≤ 16777216; decide), fun L hL => ?_⟩⟩
      have s2 : Same H' (upd (upd H' t (.tup [.int (i : Int)])) L (.lst [.ref t])) := (same_new ht).trans (same_new hL)
      have htL : t ≠ L := ne_of_none upd_same hL
      refine ⟨_, rfl, _, _, rfl, rfl, _, rfl, by show -(2 ^ 62) ≤ (k : Int) - 1; omega, by show (k : Int) - 1 < 2 ^ 62; omega, ?_⟩
      refine for_range (lo := 0) (n := ((k : Int) - 1).toNat) (fun j σ H2 => ∃ v5 lw wv, σ = [some (.ref a), some (.int (k : Int)), some (.ref D), some (.int (i : Int)), some (.ref lw), v5, none] ∧ Same H' H2 ∧ H2 lw = some (.lst wv) ∧ Wks H2 wv (FL.walksFrom g i j))
        ⟨v5, L, [.ref t], rfl, s2, upd_same, .cons ⟨t, rfl, by rw [upd_ne htL, upd_same]; rfl⟩ .nil⟩ ?_ ?_
      · rintro j σ H2 hj ⟨v5, lw, wv, rfl, s3, h3, r3⟩
        refine ⟨_, rfl, _, rfl, _, rfl, a, lp, fd, lw, g, FL.walksFrom g i j, wv, i, rfl, wf, ln.same (s1.trans s3), h3, r3, fun u hu => ?_, ?_, fun p ps H3 s4 hp h4 r4 => ?_⟩
        · obtain ⟨q1, q2, q3⟩ := walksFrom_ok hi hu
          exact ⟨q1, q2, by omega⟩
        · have b := walksFrom_len wf i j
          have c : 6 ^ j ≤ 6 ^ 5 := Nat.pow_le_pow_right (by decide) (by omega)
          have d : 6 ^ 5 = 7776 := by decide
          omega
        · exact ⟨_, p, ps, rfl, s3.trans s4, h4, r4⟩
      · rintro σ H2 ⟨v5, lw, wv, rfl, s3, h3, r3⟩
        have ek : ((k : Int) - 1).toNat = k - 1 := by omega
        rw [ek] at r3
        have lwl := Paired.length r3
        have hD2 : H2 D = some (.lst rs) := s3 _ _ h1
        refine ⟨_, rfl, .inl ⟨rfl, _, SqL.of hD2⟩, ?_⟩
        refine ⟨_, rfl, lw, rfl, ⟨_, SqL.of h3⟩, fun C hC => ?_⟩
        refine lc_list (K := K) (a := lw) (xs := wv) (fun j H3 => ∃ cs, Same H2 H3 ∧ H3 C = some (.lst cs) ∧ Wks H3 cs (((FL.walksFrom g i (k - 1)).take j).filter fun u => g.covers (FL.lastOf u) i && FL.isLeast u))
          ⟨[], same_new hC, upd_same, .nil⟩ (fun j H3 _ ⟨_, s4, _⟩ => SqL.of (s4 _ _ h3)) ?_ ?_
        · rintro j y H3 hy ⟨cs, s4, h4, r4⟩
          obtain ⟨u, eu, tu, rfl, htu⟩ := paired_get r3 hy
          obtain ⟨q1, q2, q3⟩ := walksFrom_ok hi (List.mem_of_getElem? eu)
          have htu3 := s4 _ _ htu
          have l3 := ln.same (s1.trans (s3.trans s4))
          obtain ⟨dx3, hx3⟩ := l3.ins
          have lc := Paired.length r4
          have lcl := List.length_filter_le (fun u => g.covers (FL.lastOf u) i && FL.isLeast u) ((FL.walksFrom g i (k - 1)).take j)
          have lct : ((FL.walksFrom g i (k - 1)).take j).length ≤ (FL.walksFrom g i (k - 1)).length := by rw [List.length_take]; omega
          have lcw := walksFrom_len wf i (k - 1)
          have c : 6 ^ (k - 1) ≤ 6 ^ 5 := Nat.pow_le_pow_right (by decide) (by omega)
          have d : 6 ^ 5 = 7776 := by decide
          refine ⟨rfl, ?_⟩
          refine ⟨_, rfl, a, dx3, _, rfl, hx3, lnF_no _ _ (by decide +kernel) (by decide +kernel), _, rfl, _, rfl, tu, _, _, _, rfl, rfl, SqT.of htu3, natV_last q1, _, rfl, a, lp, fd, g, FL.lastOf u, i, rfl, wf, l3, q2, _, rfl, ?_⟩
          rw [filter_take_succ eu]
          refine ite2 (fun d1 => ?_) (fun d1 => ?_)
          · refine ⟨_, rfl, tu, u, rfl, htu3, q1, by omega, fun H4 s5 => ⟨_, rfl, ?_⟩⟩
            have h4' := s5 _ _ h4
            refine ite2 (fun d2 => ?_) (fun d2 => ?_)
            · refine ⟨_, rfl, cs, h4', line_lt (by omega), _, same_upd (s4.trans s5) hC, upd_same, ?_⟩
              rw [d1, d2]
              show Wks _ _ (_ ++ [u])
              exact Paired.snoc (Wks.over h4' (Wks.same s5 r4)) ⟨tu, rfl, by rw [upd_ne (ne_of (s5 _ _ htu3) h4' (by intro z; cases z))]; exact s5 _ _ htu3⟩
            · have d2' : FL.isLeast u = false := by simpa using d2
              rw [d2', Bool.and_false, if_neg Bool.false_ne_true, List.append_nil]
              exact ⟨cs, s4.trans s5, h4', Wks.same s5 r4⟩
          · have d1' : g.covers (FL.lastOf u) i = false := by simpa using d1
            rw [d1', Bool.false_and, if_neg Bool.false_ne_true, List.append_nil]
            refine iteF ?_
            exact ⟨cs, s4, h4, r4⟩
        · rintro H3 ⟨cs, s4, h4, r4⟩
          rw [lwl, List.take_length] at r4
          have hD3 : H3 D = some (.lst rs) := s4 _ _ hD2
          have lr := Paired.length r1
          have lcs := Paired.length r4
          have lf := flat_len wf k6 i
          have lcf := closedFrom_len wf k6 i
          unfold FL.closedFrom at lcf
          refine ⟨D, C, _, _, rfl, rfl, hD3, h4, line_le (by omega), ?_⟩
          refine ⟨_, _, _, _, rfl, same_upd (s1.trans (s3.trans s4)) hD, upd_same, ?_⟩
          rw [List.range_succ, List.flatMap_append]
          have e1 : [i].flatMap (FL.closedFrom g k) = (FL.walksFrom g i (k - 1)).filter fun u => g.covers (FL.lastOf u) i && FL.isLeast u := by simp [FL.closedFrom]
          rw [e1]
          exact paired_append (Wks.over hD3 (Wks.same (s3.trans s4) r1)) (Wks.over hD3 r4)
    · rintro σ H' ⟨v3, v4, v5, rs, rfl, s1, h1, r1⟩
      refine ⟨_, rfl, ?_⟩
      exact kk D rs H' s1 hD h1 r1

/-! ## factor_and_more -/
def spFactor (A : Ad) : Sp := fun vs H Q _ => ∃ (a lp fd t : Addr) (g : Abs) (u : List Nat), vs = [.ref a, .ref t] ∧ WF g ∧ Ln A H a lp fd g ∧ H t = some (.tup (natV u)) ∧ (∀ i ∈ u, i < g.n) ∧
  ∀ p H', Same H H' → H p = none → H' p = some (.tup [.int (g.along u).1, .int (g.along u).2]) → Q (.ref p) H'
theorem sc_factor_and_more : FnScope ["line", "walk", "factor", "more", "piece", "slope"] ["line", "walk"] (defScope s_factor_and_more) := ⟨rfl, rfl, rfl, by decide +kernel, rfl, by decide +kernel, by decide +kernel⟩
theorem along_take {g : Abs} {u : List Nat} {i j : Nat} (h : u[i]? = some j) : g.along (u.take (i + 1)) = FL.aff g (g.along (u.take i)) j := by
  rw [List.take_add_one, h]
  show g.along (u.take i ++ [j]) = _
  rw [FL.along_def, List.foldl_append]
  rfl
theorem ok_factor_and_more (T : Txt K mg A) : FnOk P w K mg base CX0 2 A.factor_and_more.a A.factor_and_more.d ["line", "walk"] (spFactor A) := by
  refine T.factor_and_more.fn.ok sc_factor_and_more (fun vs H Q E h => ?_) (fun cdv B outer s H vs Q E hr h => ?_)
  · obtain ⟨a, lp, fd, t, g, u, rfl, _⟩ := h
    rfl
  · obtain ⟨a, lp, fd, t, g, u, rfl, wf, ln, ht, hu, kk⟩ := h
    refine ⟨_, pss_cons (ps_asg (pe_tup (pa_cons pe_int (pa_cons pe_int pa_nil))) (pg_tup (by rfl) (pgs_cons (pg_name (i := 2) sc_factor_and_more.nd rfl (.inl rfl)) (pgs_cons (pg_name (i := 3) sc_factor_and_more.nd rfl (.inl rfl)) pgs_nil))))
      (pss_cons (ps_for PassesOwn.never rfl (pi_tup (pv 1)) (pg_name (i := 4) sc_factor_and_more.nd rfl (.inl rfl))
        (pss_cons (ps_set (i := 5) sc_factor_and_more.nd rfl (.inl rfl) (pe_meth (pv 0) T.clL T.l_slope.m (ok_l_slope T) hr T.l_slope.b .nil pass0 (pa_cons (pv 4) pa_nil)))
        (pss_cons (ps_set (i := 2) sc_factor_and_more.nd rfl (.inl rfl) (pe_op op_mul (pv 5) (pv 2)))
        (pss_one (ps_set (i := 3) sc_factor_and_more.nd rfl (.inl rfl) (pe_op op_sub (pe_op op_add (pe_op op_mul (pv 5) (pv 3)) (pe_ix ix_list (pe_fld (pv 0) rfl) (pv 4) (fun _ _ => rfl))) (pe_op op_mul (pv 5) (pv 4))))))))
      (pss_one (ps_ret (pe_tup (pa_cons (pv 2) (pa_cons (pv 3) pa_nil)))))), ?_⟩
    refine ⟨line_le (by show 2 ≤ 16777216; decide), fun p0 hp0 => ⟨p0, _, rfl, SqT.of upd_same, rfl, _, _, rfl, _, _, rfl, rfl, ?_⟩⟩
    have s0 := same_new (o := .tup [.int 1, .int 0]) hp0
    refine ⟨_, rfl, t, rfl, ⟨_, SqT.of (s0 _ _ ht)⟩, for_tup (K := K) (a := t) (xs := natV u) (fun i σ H' => ∃ v4 v5, σ = [some (.ref a), some (.ref t), some (.int (g.along (u.take i)).1), some (.int (g.along (u.take i)).2), v4, v5] ∧ Same H H')
      ⟨none, none, rfl, s0⟩ (fun i σ H' _ ⟨_, _, _, e⟩ => SqT.of (e _ _ ht)) ?_ ?_⟩
    · rintro i v σ H' hv ⟨v4, v5, rfl, s1⟩
      have l1 := ln.same s1
      obtain ⟨⟨dx, hx⟩, hp⟩ := id l1
      obtain ⟨j, ej, rfl⟩ := natV_get hv
      have hj := hu j (List.mem_of_getElem? ej)
      have sl := FL.slope_le wf j
      refine ⟨_, rfl, a, dx, _, rfl, hx, lnF_no _ _ (by decide +kernel) (by decide +kernel), _, rfl, a, lp, fd, g, j, rfl, wf, l1, hj, ?_⟩
      refine ⟨_, rfl, _, rfl, _, _, rfl, rfl, .inl ⟨by omega, by omega⟩, ?_⟩
      refine ⟨_, rfl, _, rfl, _, _, rfl, rfl, .inl ⟨by omega, by omega⟩, _, rfl, a, _, dx, _, _, rfl, hx, T.clL, T.nPoints, lnF_points _ _, _, rfl, lp, _, _, _, rfl, rfl, SqL.of hp, atI_nat (j := j) (pts_at wf (by omega)), _, _, rfl, rfl, ?_⟩
      refine ⟨_, rfl, _, rfl, _, _, rfl, rfl, .inl ⟨by omega, by omega⟩, _, _, rfl, rfl, ?_⟩
      refine ⟨some (.int (j : Int)), some (.int (g.slope j)), ?_, s1⟩
      rw [along_take ej]
      generalize g.along (u.take i) = z
      show [some (.ref a), some (.ref t), some (V.int (g.slope j * z.1)), some (V.int (g.slope j * z.2 + (g.point j : Int) - g.slope j * (j : Int))), some (V.int (j : Int)), some (V.int (g.slope j))] = _
      have e : g.slope j * z.2 + (g.point j : Int) - g.slope j * (j : Int) = (g.point j : Int) + g.slope j * (z.2 - (j : Int)) := by grind
      rw [e]
      rfl
    · rintro σ H' ⟨v4, v5, rfl, s1⟩
      rw [natV_len, List.take_length]
      refine ⟨_, rfl, _, rfl, line_le (by show 2 ≤ 16777216; decide), fun p hp => ?_⟩
      exact kk p _ (s1.trans (same_new hp)) (s1.free hp) upd_same

/-! ## from_least -/
def spFromLeast : Sp := fun vs H Q _ => ∃ (lp : Addr) (pl : List Int) (m : Int), vs = [.ref lp, .int m] ∧ H lp = some (.lst (intV pl)) ∧ pl ≠ [] ∧ pl.length ≤ 10 ∧
  ∀ v H', Same H H' → RdNew H H' v (FL.fromLeast pl m) → Q v H'
theorem sc_from_least : FnScope ["places", "below", "at"] ["places", "below"] (defScope s_from_least) := ⟨rfl, rfl, rfl, by decide +kernel, rfl, by decide +kernel, by decide +kernel⟩
theorem ok_from_least (T : Txt K mg A) : FnOk P w K mg base CX0 1 A.from_least.a A.from_least.d ["places", "below"] spFromLeast := by
  refine T.from_least.fn.ok sc_from_least (fun vs H Q E h => ?_) (fun cdv B outer s H vs Q E hr h => ?_)
  · obtain ⟨lp, pl, m, rfl, _⟩ := h
    rfl
  · obtain ⟨lp, pl, m, rfl, hp, pne, plen, kk⟩ := h
    refine ⟨_, pss_cons (ps_set (i := 2) sc_from_least.nd rfl (.inl rfl) (pe_bm PySem.F.plainAttrs_list PySem.F.slot_list_index PySem.F.type_list_index mt_index (pv 0) (pa_cons (pe_callB (cr_min rfl) (by rfl) T.b_min (by decide +kernel) (pa_cons (pv 0) pa_nil)) pa_nil)))
      (pss_one (ps_ret (pe_tup (pa_cons (pe_op op_cat (pe_slice sl_list (pv 0) (po_some (pv 2)) po_none) (pe_slice sl_list (pv 0) po_none (po_some (pv 2)))) (pa_cons (pv 1) pa_nil))))), ?_⟩
    have hm := FL.minL_mem pne
    have hi := List.idxOf_lt_length_of_mem hm
    have hv := List.getElem_idxOf hi
    have flat : (intV pl).all flatV = true := by
      unfold intV
      rw [List.all_map, List.all_eq_true]
      intro _ _
      rfl
    have l0 : 0 < pl.length := by omega
    refine ⟨_, rfl, .inl ⟨rfl, _, SqL.of hp⟩, _, rfl, lp, pl, rfl, SqL.of hp, l0, fun m' m1 m2 => ?_⟩
    have em : m' = FL.minL pl := (FL.minL_unique m1 m2).symm
    subst em
    have gv : ∀ n, (intV pl)[n]? = (pl[n]?).map V.int := fun n => by unfold intV; rw [List.getElem?_map]
    refine ⟨lp, intV pl, _, pl.idxOf (FL.minL pl), _, rfl, rfl, SqL.of hp, rfl, flat, by rw [gv, List.getElem?_eq_getElem hi, hv]; rfl, by show (FL.minL pl == FL.minL pl) = true; exact beq_self_eq_true _, fun n z hn hz => ?_, ?_⟩
    · rw [gv, List.getElem?_eq_getElem (by omega)] at hz
      have ez : V.int pl[n] = z := Option.some.inj hz
      subst ez
      show (pl[n] == FL.minL pl) = false
      exact List.not_of_lt_findIdx (p := fun y => y == FL.minL pl) hn
    · generalize hat : pl.idxOf (FL.minL pl) = at' at *
      refine ⟨_, rfl, _, rfl, _, rfl, lp, _, rfl, SqL.of hp, fun p1 hp1 => ?_⟩
      refine ⟨_, rfl, _, rfl, _, rfl, lp, _, rfl, SqL.of (same_new hp1 _ _ hp), fun p2 hp2 => ?_⟩
      have n12 : p1 ≠ p2 := ne_of_none upd_same hp2
      refine ⟨p1, p2, _, _, rfl, rfl, by rw [upd_ne n12, upd_same], upd_same, ?_, fun p3 hp3 => ?_⟩
      · have a1 := cutV_length (intV pl) (some (at' : Int)) none
        have a2 := cutV_length (intV pl) none (some (at' : Int))
        rw [intV_len] at a1 a2
        exact line_le (by omega)
      · refine ⟨_, rfl, line_le (by show 2 ≤ 16777216; decide), fun p4 hp4 => ?_⟩
        have n34 : p3 ≠ p4 := ne_of_none upd_same hp4
        refine kk _ _ ((((same_new hp1).trans (same_new hp2)).trans (same_new hp3)).trans (same_new hp4)) ⟨p4, p3, rfl, ((same_new hp1).trans (same_new hp2)).free hp3, upd_same, ?_⟩
        rw [upd_ne n34, upd_same, cut_from, cut_to _ _ (by rw [intV_len]; omega)]
        unfold FL.fromLeast intV
        rw [hat, List.map_append, List.map_drop, List.map_take]
end
end FW

namespace FW
open PySem PySem.Spec PyProof.Rows L2
open Su183 (Abs Frac)
open FL (WF Pl)
theorem pg_tupK {X : Cx} {K : PySem.W.Frag} (e : X.K = K) {es : List Expr} {k : Nat} {t : TGs} {n : Nat} {pos : Pos} (hc : X.calm = true) (h : PGs X es t) (hn : (assignEach es X.env).length = n := by rfl) (hst : (assignEach es X.env).findIdx? (·.1) = none := by rfl) : PG X (.Tuple es k pos) (gTup K n t) := by
  subst e
  exact pg_tup hc h hn hst
theorem ite_join2 {c : Prop} [Decidable c] {A' : Prop} {KK : L2.St → Hp → Prop} {s2 s1 : L2.St} {H : Hp} (h1 : c → KK s1 H → A') (h2 : ¬ c → s2 = s1) (k : KK s1 H) : if c then A' else KK s2 H := by
  by_cases h : c
  · rw [if_pos h]
    exact h1 h k
  · rw [if_neg h, h2 h]
    exact k
theorem ite_rest {c : Prop} [Decidable c] {A' B' R : Prop} (h1 : c → R → A') (k : R) : if c then A' else (if false = true then B' else R) := by
  by_cases h : c
  · rw [if_pos h]
    exact h1 h k
  · rw [if_neg h]
    exact iteF k
theorem plN_get {g : Abs} {B : Int} : ∀ (u : List Nat) (X : Int) (i : Nat), i < u.length → (FL.plN g B X u)[i]? = some (FL.alN g B (u.take i) X)
  | [], _, i, h => by simp at h
  | j :: u, X, 0, _ => rfl
  | j :: u, X, i + 1, h => by
    show (FL.plN g B (FL.Lp g j B X) u)[i]? = some (FL.alN g B (u.take i) (FL.Lp g j B X))
    exact plN_get u _ i (by simpa using h)
theorem alN_take {g : Abs} {B X : Int} {u : List Nat} {i j : Nat} (h : u[i]? = some j) : FL.alN g B (u.take (i + 1)) X = FL.Lp g j B (FL.alN g B (u.take i) X) := by
  rw [List.take_add_one, h]
  unfold FL.alN
  show List.foldl _ _ (u.take i ++ [j]) = _
  rw [List.foldl_append]
  rfl
section
variable {P : Program} {w : World} {K : PySem.W.Frag} {mg : Str → Option Value} {base : Heap} {A : Ad}

/-! ## round_of -/
def spRoundOf (A : Ad) : Sp := fun vs H Q _ => ∃ (a lp fd t : Addr) (g : Abs) (u : List Nat), vs = [.ref a, .ref t] ∧ WF g ∧ Ln A H a lp fd g ∧ H t = some (.tup (natV u)) ∧ (∀ i ∈ u, i < g.n) ∧ u ≠ [] ∧ u.length ≤ 10 ∧ 0 < FL.fxB g u ∧
  (∀ H', Same H H' → FL.roundOf g u = none → Q .non H') ∧ (∀ v r H', Same H H' → FL.roundOf g u = some r → RdNew H H' v r → Q v H')
theorem sc_round_of : FnScope ["line", "walk", "factor", "more", "above", "below", "places", "piece", "slope"] ["line", "walk"] (defScope s_round_of) := ⟨rfl, rfl, rfl, by decide +kernel, rfl, by decide +kernel, by decide +kernel⟩
theorem ok_round_of (T : Txt K mg A) : FnOk P w K mg base CX0 3 A.round_of.a A.round_of.d ["line", "walk"] (spRoundOf A) := by
  refine T.round_of.fn.ok sc_round_of (fun vs H Q E h => ?_) (fun cdv B outer s H vs Q E hr h => ?_)
  · obtain ⟨a, lp, fd, t, g, u, rfl, _⟩ := h
    rfl
  · obtain ⟨a, lp, fd, t, g, u, rfl, wf, ln, ht, hu, une, ulen, hB, kN, kS⟩ := h
    refine ⟨_, pss_cons (ps_asg (pe_call (ok_factor_and_more T) hr (by rfl) T.factor_and_more.mg T.factor_and_more.fn.kp T.factor_and_more.b .nil pass0 (pa_cons (pv 0) (pa_cons (pv 1) pa_nil))) (pg_tup (by rfl) (pgs_cons (pg_name (i := 2) sc_round_of.nd rfl (.inl rfl)) (pgs_cons (pg_name (i := 3) sc_round_of.nd rfl (.inl rfl)) pgs_nil))))
      (pss_cons (ps_par (i := 4) (j := 5) (by rfl) sc_round_of.nd rfl rfl (by decide) rfl rfl (pa_cons (pv 3) (pa_cons (pe_op op_sub pe_int (pv 2)) pa_nil)) (by rfl))
      (pss_cons (ps_if (pt_cmpR op_lt (pv 5) pe_int (nomark _)) (pss_one (ps_par (i := 4) (j := 5) (by rfl) sc_round_of.nd rfl rfl (by decide) rfl rfl (pa_cons (pe_un un_neg (pv 4)) (pa_cons (pe_un un_neg (pv 5)) pa_nil)) (by rfl))) pss_nil)
      (pss_cons (ps_if (pt_cmpR op_eq (pe_op op_mod (pv 4) (pv 5)) pe_int (nomark _)) (pss_one (ps_ret pe_non)) pss_nil)
      (pss_cons (ps_set (i := 6) sc_round_of.nd rfl (.inl rfl) (pe_lst pa_nil))
      (pss_cons (ps_for PassesOwn.never rfl (pi_tup (pv 1)) (pg_name (i := 7) sc_round_of.nd rfl (.inl rfl))
        (pss_cons (ps_expr (pe_bm PySem.F.plainAttrs_list PySem.F.slot_list_append PySem.F.type_list_append mt_append (pv 6) (pa_cons (pv 4) pa_nil)))
        (pss_cons (ps_set (i := 8) sc_round_of.nd rfl (.inl rfl) (pe_meth (pv 0) T.clL T.l_slope.m (ok_l_slope T) (hr.mono (by decide)) T.l_slope.b .nil pass0 (pa_cons (pv 7) pa_nil)))
        (pss_one (ps_set (i := 4) sc_round_of.nd rfl (.inl rfl) (pe_op op_add (pe_op op_mul (pv 8) (pv 4)) (pe_op op_mul (pe_op op_sub (pe_ix ix_list (pe_fld (pv 0) rfl) (pv 7) (fun _ _ => rfl)) (pe_op op_mul (pv 8) (pv 7))) (pv 5))))))))
      (pss_one (ps_ret (pe_call (ok_from_least T) (hr.mono (by decide)) (by rfl) T.from_least.mg T.from_least.fn.kp T.from_least.b .nil pass0 (pa_cons (pv 6) (pa_cons (pv 5) pa_nil)))))))))), ?_⟩
    refine ⟨_, rfl, _, rfl, a, lp, fd, t, g, u, rfl, wf, ln, ht, hu, fun p H1 s1 np h1 => ?_⟩
    refine ⟨p, _, rfl, SqT.of h1, rfl, _, _, rfl, _, _, rfl, rfl, ?_⟩
    refine ⟨_, rfl, _, rfl, _, _, rfl, rfl, _, _, rfl, ?_⟩
    refine ⟨_, rfl, _, _, rfl, rfl, _, rfl, ?_⟩
    refine ite_join2 (s1 := [some (.ref a), some (.ref t), some (.int (g.along u).1), some (.int (g.along u).2), some (.int (FL.fxX g u)), some (.int (FL.fxB g u)), none, none, none]) (fun c k => ?_) (fun c => ?_) ?_
    · have c1 : 1 - (g.along u).1 < 0 := of_decide_eq_true c
      have eX : FL.fxX g u = -(g.along u).2 := if_pos c1
      have eB : FL.fxB g u = -(1 - (g.along u).1) := if_pos c1
      rw [eX, eB] at k
      exact ⟨_, rfl, _, rfl, _, rfl, _, rfl, _, _, rfl, k⟩
    · have c1 : ¬ 1 - (g.along u).1 < 0 := fun z => c (decide_eq_true z)
      have eX : FL.fxX g u = (g.along u).2 := if_neg c1
      have eB : FL.fxB g u = 1 - (g.along u).1 := if_neg c1
      rw [eX, eB]
      rfl
    · have er : FL.roundOf g u = if FL.fxX g u % FL.fxB g u = 0 then none else some (FL.fromLeast (FL.plN g (FL.fxB g u) (FL.fxX g u) u) (FL.fxB g u)) := rfl
      generalize FL.fxX g u = X at *
      generalize FL.fxB g u = Bq at *
      refine ⟨_, rfl, _, rfl, _, _, rfl, rfl, hB, rfl, _, rfl, ?_⟩
      refine ite2 (fun c => ?_) (fun c => ?_)
      · have c1 : V.int (X % Bq) = V.int 0 := of_decide_eq_true c
        have c2 : X % Bq = 0 := by injection c1
        rw [if_pos c2] at er
        exact kN H1 s1 er
      · have c2 : X % Bq ≠ 0 := fun z => c (by
          show decide (V.int (X % Bq) = V.int 0) = true
          rw [z]
          exact decide_eq_true rfl)
        rw [if_neg c2] at er
        refine ⟨line_le (Nat.zero_le _), fun D hD => ?_⟩
        have s2 : Same H1 (upd H1 D (.lst [])) := same_new hD
        have pl := FL.plN_length (g := g) (B := Bq) u X
        refine ⟨_, rfl, t, rfl, ⟨_, SqT.of (s2 _ _ (s1 _ _ ht))⟩, for_tup (K := K) (a := t) (xs := natV u) (fun i σ H' => ∃ v7 v8, σ = [some (.ref a), some (.ref t), some (.int (g.along u).1), some (.int (g.along u).2), some (.int (FL.alN g Bq (u.take i) X)), some (.int Bq), some (.ref D), v7, v8] ∧ Same H1 H' ∧ H' D = some (.lst (intV ((FL.plN g Bq X u).take i))))
          ⟨none, none, rfl, s2, upd_same⟩ (fun i σ H' _ ⟨_, _, _, e, _⟩ => SqT.of (e _ _ (s1 _ _ ht))) ?_ ?_⟩
        · rintro i v σ H' hv ⟨v7, v8, rfl, s3, h3⟩
          obtain ⟨j, ej, rfl⟩ := natV_get hv
          have hi : i < u.length := (List.getElem?_eq_some_iff.mp ej).1
          have hj := hu j (List.mem_of_getElem? ej)
          have sl := FL.slope_le wf j
          have pp := wf.point_le j
          have h6 := wf.six
          refine ⟨_, rfl, .inl ⟨rfl, _, SqL.of h3⟩, _, rfl, D, _, _, rfl, rfl, h3, line_lt (by rw [intV_len, List.length_take]; omega), ?_⟩
          have s4 : Same H1 (upd H' D (.lst (intV ((FL.plN g Bq X u).take i) ++ [.int (FL.alN g Bq (u.take i) X)]))) := same_upd s3 hD
          have l4 := ln.same (s1.trans s4)
          obtain ⟨⟨dx, hx⟩, hp⟩ := id l4
          refine ⟨_, rfl, a, dx, _, rfl, hx, lnF_no _ _ (by decide +kernel) (by decide +kernel), _, rfl, a, lp, fd, g, j, rfl, wf, l4, hj, ?_⟩
          have m1 : ((g.slope j) * (j : Int)).natAbs ≤ 36 := by
            rw [Int.natAbs_mul]
            have : (g.slope j).natAbs * (j : Int).natAbs ≤ 6 * 6 := Nat.mul_le_mul sl (by omega)
            omega
          refine ⟨_, rfl, _, rfl, _, _, rfl, rfl, .inl ⟨by omega, by omega⟩, ?_⟩
          refine ⟨_, rfl, a, _, dx, _, _, rfl, hx, T.clL, T.nPoints, lnF_points _ _, _, rfl, lp, _, _, _, rfl, rfl, SqL.of hp, atI_nat (j := j) (pts_at wf (by omega)), ?_⟩
          refine ⟨_, rfl, _, rfl, _, _, rfl, rfl, .inl ⟨by omega, by omega⟩, _, _, rfl, rfl, _, rfl, _, _, rfl, rfl, .inl ⟨by omega, by omega⟩, _, _, rfl, rfl, ?_⟩
          refine ⟨some (.int (j : Int)), some (.int (g.slope j)), ?_, s4, ?_⟩
          · rw [alN_take ej]
            show [some (V.ref a), some (.ref t), some (.int (g.along u).1), some (.int (g.along u).2), some (.int (g.slope j * FL.alN g Bq (u.take i) X + ((g.point j : Int) - g.slope j * (j : Int)) * Bq)), some (.int Bq), some (.ref D), some (.int (j : Int)), some (.int (g.slope j))] = _
            have e : g.slope j * FL.alN g Bq (u.take i) X + ((g.point j : Int) - g.slope j * (j : Int)) * Bq = FL.Lp g j Bq (FL.alN g Bq (u.take i) X) := by
              unfold FL.Lp
              grind
            rw [e]
          · rw [upd_same, List.take_add_one, plN_get u X i hi, intV_append]
            rfl
        · rintro σ H' ⟨v7, v8, rfl, s3, h3⟩
          rw [natV_len, ← pl, List.take_length] at h3
          refine ⟨_, rfl, _, rfl, D, FL.plN g Bq X u, Bq, rfl, h3, ?_, by rw [pl]; exact ulen, fun v H'' s5 rd => ?_⟩
          · intro z
            have := congrArg List.length z
            rw [pl, List.length_nil] at this
            exact une (List.length_eq_zero_iff.mp this)
          · exact kS v _ H'' ((s1.trans s3).trans s5) er (rd.back (s1.trans s3))

/-! ## steps_of_all -/
def spSteps (A : Ad) : Sp := fun vs H Q _ => ∃ (a lp fd : Addr) (g : Abs) (j : Nat), vs = [.ref a, .int (j : Int)] ∧ WF g ∧ Ln A H a lp fd g ∧ j < g.n ∧ Q (.int (FL.stepsOf g j : Int)) H
theorem sc_steps_of_all : FnScope ["line", "piece", "sign", "here", "step", "slope"] ["line", "piece"] (defScope s_steps_of_all) := ⟨rfl, rfl, rfl, by decide +kernel, rfl, by decide +kernel, by decide +kernel⟩
theorem ok_steps_of_all (T : Txt K mg A) : FnOk P w K mg base CX0 2 A.steps_of_all.a A.steps_of_all.d ["line", "piece"] (spSteps A) := by
  refine T.steps_of_all.fn.ok sc_steps_of_all (fun vs H Q E h => ?_) (fun cdv B outer s H vs Q E hr h => ?_)
  · obtain ⟨a, lp, fd, g, j, rfl, _⟩ := h
    rfl
  · obtain ⟨a, lp, fd, g, j, rfl, wf, ln, hj, kk⟩ := h
    refine ⟨_, pss_cons (ps_set (i := 2) sc_steps_of_all.nd rfl (.inl rfl) pe_int)
      (pss_cons (ps_set (i := 3) sc_steps_of_all.nd rfl (.inl rfl) (pv 1))
      (pss_cons (ps_for PassesOwn.never rfl (pi_range2 (by rfl) T.b_range (pa_cons pe_int (pa_cons (pe_op op_add (pe_meth0 (pv 0) T.clL T.l_many.m (ok_l_many T) hr T.l_many.b .nil pass0) pe_int) pa_nil))) (pg_name (i := 4) sc_steps_of_all.nd rfl (.inl rfl))
        (pss_cons (ps_set (i := 5) sc_steps_of_all.nd rfl (.inl rfl) (pe_meth (pv 0) T.clL T.l_slope.m (ok_l_slope T) hr T.l_slope.b .nil pass0 (pa_cons (pv 3) pa_nil)))
        (pss_cons (ps_if (PW.pt (pw_and (pt_cmpR op_ne (pv 5) pe_int (nomark _)) (pw_and1 (pt_cmpR op_ne (pv 5) (pe_un un_neg pe_int) (nomark _))))) (pss_one (ps_ret pe_int)) pss_nil)
        (pss_cons (ps_set (i := 2) sc_steps_of_all.nd rfl (.inl rfl) (pe_op op_mul (pv 2) (pv 5)))
        (pss_cons (ps_set (i := 3) sc_steps_of_all.nd rfl (.inl rfl) (pe_callB (call_min2 rfl) (by rfl) T.b_min (by decide +kernel) (pa_cons (pe_ix ix_list (pe_fld (pv 0) rfl) (pv 3) (fun _ _ => rfl)) (pa_cons (pe_ix ix_list (pe_fld (pv 0) rfl) (pe_op op_add (pv 3) pe_int) (fun _ _ => rfl)) pa_nil))))
        (pss_one (ps_if (pt_cmpR op_eq (pv 3) (pv 1) (nomark _)) (pss_one (ps_ret (pe_ifExp (pt_cmpR op_eq (pv 2) pe_int (nomark _)) (pv 4) (pe_op op_mul pe_int (pv 4))))) pss_nil)))))))
      (pss_one (ps_ret pe_int)))), ?_⟩
    obtain ⟨⟨dx, hx⟩, hp⟩ := id ln
    have h6 := wf.six
    refine ⟨_, rfl, ?_⟩
    refine ⟨_, rfl, a, dx, _, rfl, hx, lnF_no _ _ (by decide +kernel) (by decide +kernel), a, lp, fd, g, rfl, wf, ln, _, _, rfl, rfl, _, _, rfl, ⟨by decide, by decide, by omega, by omega⟩, ?_⟩
    have en : ((g.n : Int) + 1 - 1).toNat = g.n := by omega
    rw [en]
    refine for_range (lo := 1) (n := g.n) (fun i σ H' => ∃ (sgn : Int) (here : Nat) (v4 v5 : Option V), σ = [some (.ref a), some (.int (j : Int)), some (.int sgn), some (.int (here : Int)), v4, v5] ∧ H' = H ∧ here < g.n ∧ FL.stepsGo g j (g.n - i) (i + 1) here sgn = FL.stepsOf g j)
      ⟨1, j, none, none, rfl, rfl, hj, rfl⟩ ?_ ?_
    · rintro i σ H' hi ⟨sgn, here, v4, v5, rfl, eH, hh, inv⟩
      subst eH
      have sl := FL.slope_le wf here
      obtain ⟨m, hm⟩ : ∃ m, g.n - i = m + 1 := ⟨g.n - i - 1, by omega⟩
      rw [hm] at inv
      unfold FL.stepsGo at inv
      refine ⟨_, rfl, a, dx, _, rfl, hx, lnF_no _ _ (by decide +kernel) (by decide +kernel), _, rfl, a, lp, fd, g, here, rfl, wf, ln, hh, ?_⟩
      refine ⟨_, rfl, rfl, _, rfl, ?_⟩
      by_cases un : FL.un g here
      · rw [if_neg (by unfold FL.un at un; omega)] at inv
        have hnx := FL.nx_lt wf un
        refine ite_rest (fun c k => ?_) ?_
        · have c1 : g.slope here ≠ 1 := fun z => by
            rw [z] at c
            exact absurd c (by decide)
          have c2 : g.slope here = -1 := un.resolve_left c1
          have nd : (!decide (V.int (g.slope here) = V.int (-1))) = false := by
            rw [c2, decide_eq_true rfl]
            rfl
          refine ⟨_, rfl, _, rfl, rfl, _, rfl, ?_⟩
          exact ite2 (fun d => absurd (nd.symm.trans d) Bool.false_ne_true) (fun _ => k)
        · refine ⟨_, rfl, _, rfl, _, _, rfl, rfl, .inr ⟨by omega, by omega⟩, ?_⟩
          refine ⟨_, rfl, a, _, dx, _, _, rfl, hx, T.clL, T.nPoints, lnF_points _ _, _, rfl, lp, _, _, _, rfl, rfl, SqL.of hp, atI_nat (j := here) (pts_at wf (by omega)), ?_⟩
          refine ⟨_, rfl, a, _, dx, _, _, rfl, hx, T.clL, T.nPoints, lnF_points _ _, _, rfl, _, _, rfl, rfl, lp, _, _, _, rfl, rfl, SqL.of hp, atI_nat (j := here + 1) (pts_at wf (by omega)), _, _, rfl, ?_⟩
          have enx : (if (g.point (here + 1) : Int) < (g.point here : Int) then (g.point (here + 1) : Int) else (g.point here : Int)) = (FL.nx g here : Int) := by
            unfold FL.nx
            split <;> omega
          rw [enx]
          refine ⟨_, rfl, _, rfl, rfl, _, rfl, ?_⟩
          refine ite2 (fun c => ?_) (fun c => ?_)
          · have c1 : V.int (FL.nx g here : Int) = V.int (j : Int) := of_decide_eq_true c
            have c2 : FL.nx g here = j := by
              injection c1 with c1
              omega
            rw [if_pos c2] at inv
            refine ⟨_, rfl, rfl, _, rfl, ?_⟩
            refine ite2 (fun d => ?_) (fun d => ?_)
            · have d1 : V.int (sgn * g.slope here) = V.int 1 := of_decide_eq_true d
              have d2 : sgn * g.slope here = 1 := by injection d1
              rw [if_pos d2] at inv
              refine ⟨_, rfl, ?_⟩
              show Q (.int (1 + (i : Int))) _
              have e : 1 + (i : Int) = ((i + 1 : Nat) : Int) := by omega
              rw [e, inv]
              exact kk
            · have d2 : sgn * g.slope here ≠ 1 := fun z => d (by
                show decide (V.int (sgn * g.slope here) = V.int 1) = true
                rw [z]
                exact decide_eq_true rfl)
              rw [if_neg d2] at inv
              refine ⟨_, rfl, _, _, rfl, rfl, .inl ⟨by decide, by decide⟩, ?_⟩
              show Q (.int (2 * (1 + (i : Int)))) _
              have e : 2 * (1 + (i : Int)) = ((2 * (i + 1) : Nat) : Int) := by omega
              rw [e, inv]
              exact kk
          · have c2 : FL.nx g here ≠ j := fun z => c (by
              show decide (V.int (FL.nx g here : Int) = V.int (j : Int)) = true
              rw [z]
              exact decide_eq_true rfl)
            rw [if_neg c2] at inv
            exact ⟨_, FL.nx g here, some (.int (1 + (i : Int))), some (.int (g.slope here)), rfl, rfl, hnx, by rw [show g.n - (i + 1) = m by omega]; exact inv⟩
      · have c1 : g.slope here ≠ 1 := fun z => un (.inl z)
        have c2 : g.slope here ≠ -1 := fun z => un (.inr z)
        rw [if_pos ⟨c1, c2⟩] at inv
        have d1 : (!decide (V.int (g.slope here) = V.int 1)) = true := by
          rw [decide_eq_false (fun z => c1 (by injection z))]
          rfl
        have d2 : (!decide (V.int (g.slope here) = V.int (-1))) = true := by
          rw [decide_eq_false (fun z => c2 (by injection z))]
          rfl
        refine ite2 (fun _ => ?_) (fun d => absurd d1 d)
        refine ⟨_, rfl, _, rfl, rfl, _, rfl, ?_⟩
        refine ite2 (fun _ => ?_) (fun d => absurd d2 d)
        show Q (.int ((0 : Nat) : Int)) _
        rw [inv]
        exact kk
    · rintro σ H' ⟨sgn, here, v4, v5, rfl, eH, hh, inv⟩
      subst eH
      rw [Nat.sub_self] at inv
      have e : 0 = FL.stepsOf g j := inv
      show Q (.int 0) _
      rw [← e] at kk
      exact kk
end
end FW

namespace FW
open PySem PySem.Spec PyProof.Rows L2
open Su183 (Abs Frac)
open FL (WF Pl)
abbrev Rds (H : Hp) : List V → List FL.Rd → Prop := Paired (RdAt H)
theorem Rds.same {H H' : Hp} (s : Same H H') {vs : List V} {rs : List FL.Rd} (r : Rds H vs rs) : Rds H' vs rs := Paired.mono (fun _ _ q => RdAt.same s q) r
/-- the round's own list isn't D -/
def RdNe (D : Addr) (H : Hp) (v : V) (r : FL.Rd) : Prop := ∃ t q, v = .ref t ∧ H t = some (.tup [.ref q, .int r.2]) ∧ H q = some (.lst (intV r.1)) ∧ q ≠ D
theorem RdNe.at {D : Addr} {H : Hp} {v : V} {r : FL.Rd} (h : RdNe D H v r) : RdAt H v r := by
  obtain ⟨t, q, e, h1, h2, _⟩ := h
  exact ⟨t, q, e, h1, h2⟩
theorem RdNe.same {D : Addr} {H H' : Hp} (s : Same H H') {v : V} {r : FL.Rd} (h : RdNe D H v r) : RdNe D H' v r := by
  obtain ⟨t, q, e, h1, h2, h3⟩ := h
  exact ⟨t, q, e, s _ _ h1, s _ _ h2, h3⟩
theorem RdNe.over {D : Addr} {H : Hp} {xs ys : List V} (hD : H D = some (.lst xs)) {v : V} {r : FL.Rd} (h : RdNe D H v r) : RdNe D (upd H D (.lst ys)) v r := by
  obtain ⟨t, q, e, h1, h2, h3⟩ := h
  refine ⟨t, q, e, ?_, ?_, h3⟩
  · rw [upd_ne (ne_of h1 hD (by intro z; cases z))]
    exact h1
  · rw [upd_ne h3]
    exact h2
section
variable {P : Program} {w : World} {K : PySem.W.Frag} {mg : Str → Option Value} {base : Heap} {A : Ad}

/-! ## is_endless -/
def spEndless (A : Ad) : Sp := fun vs H Q _ => ∃ (a lp fd : Addr) (g : Abs) (k : Nat), vs = [.ref a, .int (k : Int)] ∧ WF g ∧ Ln A H a lp fd g ∧ ∀ H', Same H H' → Q (.bl (FL.endl g k)) H'
theorem sc_is_endless : FnScope ["line", "k", "piece"] ["line", "k"] (defScope s_is_endless) := ⟨rfl, rfl, rfl, by decide +kernel, rfl, by decide +kernel, by decide +kernel⟩
theorem ok_is_endless (T : Txt K mg A) : FnOk P w K mg base CX0 3 A.is_endless.a A.is_endless.d ["line", "k"] (spEndless A) := by
  refine T.is_endless.fn.ok sc_is_endless (fun vs H Q E h => ?_) (fun cdv B outer s H vs Q E hr h => ?_)
  · obtain ⟨a, lp, fd, g, k, rfl, _⟩ := h
    rfl
  · obtain ⟨a, lp, fd, g, k, rfl, wf, ln, kk⟩ := h
    refine ⟨_, pss_one (ps_ret (pe_callB (cr_any rfl) (by rfl) T.b_any (by decide +kernel) (pa_cons
      (pe_lc (own := [("piece", 2)]) (g := gName 2) (tt := tYes) rfl sc_is_endless.nd (pi_range1 (by rfl) T.b_range (pa_cons (pe_meth0 (pv 0) T.clL T.l_many.m (ok_l_many T) (hr.mono (by decide)) T.l_many.b .nil pass0) pa_nil))
        (blkOk_by (own := [("piece", 2)]) (N := ["line", "k", "piece"]) (sc := defScope s_is_endless) (by decide +kernel))
        (fun _ _ _ _ _ => pg_name (i := 2) sc_is_endless.nd rfl (Or.inl rfl)) (fun _ _ _ _ _ => pts_nil)
        (fun _ _ _ _ _ => pe_cmpR op_eq (pe_call (ok_steps_of_all T) hr (by rfl) T.steps_of_all.mg T.steps_of_all.fn.kp T.steps_of_all.b .nil pass0 (pa_cons (pv 0) (pa_cons (pv 2) pa_nil))) (pv 1) (nomark _))) pa_nil))), ?_⟩
    obtain ⟨dx, hx⟩ := ln.ins
    have h6 := wf.six
    refine ⟨_, rfl, a, dx, _, rfl, hx, lnF_no _ _ (by decide +kernel) (by decide +kernel), a, lp, fd, g, rfl, wf, ln, _, rfl, by omega, by omega, fun D hD => ?_⟩
    refine lc_range (lo := 0) (n := g.n) (fun i H' => Same H H' ∧ H' D = some (.lst (((List.range i).map fun j => FL.stepsOf g j == k).map V.bl))) ⟨same_new hD, upd_same⟩ ?_ ?_
    · rintro i H' hi ⟨s1, h1⟩
      have e0 : (0 : Int) + (i : Int) = (i : Int) := by omega
      rw [e0]
      refine ⟨rfl, ?_⟩
      refine ⟨_, rfl, _, rfl, a, lp, fd, g, i, rfl, wf, ln.same s1, hi, _, rfl, rfl, _, h1, line_lt ?_, same_upd s1 hD, ?_⟩
      · rw [List.length_map, List.length_map, List.length_range]
        omega
      · rw [upd_same, List.range_succ, List.map_append, List.map_append]
        have e : decide (V.int (FL.stepsOf g i : Int) = V.int (k : Int)) = (FL.stepsOf g i == k) := by
          by_cases c : FL.stepsOf g i = k
          · rw [c, decide_eq_true rfl]
            exact (beq_self_eq_true k).symm
          · rw [beq_eq_false_iff_ne.mpr c, decide_eq_false]
            intro z
            injection z with z
            omega
        show some (HO.lst (_ ++ [V.bl (decide (V.int (FL.stepsOf g i : Int) = V.int (k : Int)))])) = _
        rw [e]
        rfl
    · rintro H' ⟨s1, h1⟩
      refine ⟨D, _, rfl, SqL.of h1, ?_⟩
      have e : ((List.range g.n).map fun j => FL.stepsOf g j == k).any id = FL.endl g k := by
        unfold FL.endl
        rw [List.any_map]
        rfl
      rw [e]
      exact kk H' s1

/-! ## point_rounds -/
def spPoints (A : Ad) : Sp := fun vs H Q _ => ∃ (a lp fd : Addr) (g : Abs) (k : Nat), vs = [.ref a, .int (k : Int)] ∧ WF g ∧ Ln A H a lp fd g ∧ 0 < k ∧ k ≤ 6 ∧
  ∀ p rs H', Same H H' → H p = none → H' p = some (.lst rs) → Rds H' rs ((List.range (g.n + 1)).filterMap (FL.pointRound g k)) → Q (.ref p) H'
theorem sc_point_rounds : FnScope ["line", "k", "found", "point", "begin", "many", "places", "above", "below"] ["line", "k"] (defScope s_point_rounds) := ⟨rfl, rfl, rfl, by decide +kernel, rfl, by decide +kernel, by decide +kernel⟩
theorem fm_succ {f : Nat → Option FL.Rd} (i : Nat) : (List.range (i + 1)).filterMap f = (List.range i).filterMap f ++ (f i).toList := by
  rw [List.range_succ, List.filterMap_append]
  cases e : f i <;> simp [e]
theorem fm_len {f : Nat → Option FL.Rd} (i : Nat) : ((List.range i).filterMap f).length ≤ i := by
  have := List.length_filterMap_le f (List.range i)
  simpa using this
theorem ok_point_rounds (T : Txt K mg A) : FnOk P w K mg base CX0 5 A.point_rounds.a A.point_rounds.d ["line", "k"] (spPoints A) := by
  refine T.point_rounds.fn.ok sc_point_rounds (fun vs H Q E h => ?_) (fun cdv B outer s H vs Q E hr h => ?_)
  · obtain ⟨a, lp, fd, g, k, rfl, _⟩ := h
    rfl
  · obtain ⟨a, lp, fd, g, k, rfl, wf, ln, k0, k6, kk⟩ := h
    refine ⟨_, pss_cons (ps_set (i := 2) sc_point_rounds.nd rfl (.inl rfl) (pe_lst pa_nil))
      (pss_cons (ps_for PassesOwn.never rfl (pi_range1 (by rfl) T.b_range (pa_cons (pe_op op_add (pe_meth0 (pv 0) T.clL T.l_many.m (ok_l_many T) (hr.mono (by decide)) T.l_many.b .nil pass0) pe_int) pa_nil)) (pg_name (i := 3) sc_point_rounds.nd rfl (.inl rfl))
        (pss_cons (ps_asg (pe_meth (pv 0) T.clL T.l_comes.m (ok_l_comes T) hr T.l_comes.b .nil pass0 (pa_cons (pe_tup (pa_cons (pv 3) (pa_cons pe_int pa_nil))) pa_nil)) (pg_tup (by rfl) (pgs_cons (pg_name (i := 4) sc_point_rounds.nd rfl (.inl rfl)) (pgs_cons (pg_name (i := 5) sc_point_rounds.nd rfl (.inl rfl)) pgs_nil))))
        (pss_one (ps_if (PW.pt (pw_and (pt_cmpR op_eq (pv 4) pe_int (nomark _)) (pw_and1 (pt_cmpR op_eq (pv 5) (pv 1) (nomark _)))))
          (pss_cons (ps_setLc (i := 6) (own := [("above", 7), ("below", 8)]) (tt := tYes) rfl sc_point_rounds.nd rfl rfl (sw_true rfl rfl rfl (by decide +kernel))
              (pi_list (pe_meth (pv 0) T.clL T.l_way.m (ok_l_way T) hr T.l_way.b .nil pass0 (pa_cons (pe_tup (pa_cons (pv 3) (pa_cons pe_int pa_nil))) (pa_cons (pv 1) pa_nil))))
              (blkOk_by (own := [("above", 7), ("below", 8)]) (N := ["line", "k", "found", "point", "begin", "many", "places", "above", "below"]) (sc := defScope s_point_rounds) (by decide +kernel))
              (fun _ _ _ _ _ => pg_tupK (K := K) (n := 2) rfl (by rfl) (pgs_cons (pg_name (i := 7) sc_point_rounds.nd rfl (Or.inl rfl)) (pgs_cons (pg_name (i := 8) sc_point_rounds.nd rfl (Or.inl rfl)) pgs_nil)))
              (fun _ _ _ _ _ => pts_nil) (fun _ _ _ _ _ => pv 7))
          (pss_one (ps_if (pt_cmpR op_eq (pv 3) (pe_callB (cr_min rfl) (by rfl) T.b_min (by decide +kernel) (pa_cons (pv 6) pa_nil)) (nomark _))
            (pss_one (ps_expr (pe_bm PySem.F.plainAttrs_list PySem.F.slot_list_append PySem.F.type_list_append mt_append (pv 2) (pa_cons (pe_tup (pa_cons (pv 6) (pa_cons pe_int pa_nil))) pa_nil)))) pss_nil)))
          pss_nil))))
      (pss_one (ps_ret (pv 2)))), ?_⟩
    have h6 := wf.six
    refine ⟨line_le (Nat.zero_le _), fun D hD => ?_⟩
    have l0 := ln.same (same_new (o := .lst []) hD)
    obtain ⟨dx, hx⟩ := l0.ins
    refine ⟨_, rfl, a, dx, _, rfl, hx, lnF_no _ _ (by decide +kernel) (by decide +kernel), a, lp, fd, g, rfl, wf, l0, _, _, rfl, rfl, _, rfl, by omega, by omega, ?_⟩
    have en : ((g.n : Int) + 1).toNat = g.n + 1 := by omega
    rw [en]
    refine for_range (lo := 0) (n := g.n + 1) (fun i σ H' => ∃ v3 v4 v5 v6 rs, σ = [some (.ref a), some (.int (k : Int)), some (.ref D), v3, v4, v5, v6, none, none] ∧ Same H H' ∧ H' D = some (.lst rs) ∧ Paired (RdNe D H') rs ((List.range i).filterMap (FL.pointRound g k)))
      ⟨none, none, none, none, [], rfl, same_new hD, upd_same, .nil⟩ ?_ ?_
    · rintro i σ H' hi ⟨v3, v4, v5, v6, rs, rfl, s1, h1, r1⟩
      have e0 : (0 : Int) + (i : Int) = (i : Int) := by omega
      rw [e0]
      have hpl := FL.ofNat_pl (g := g) (p := i) (by omega)
      have lr := Paired.length r1
      have lf := fm_len (f := FL.pointRound g k) i
      refine ⟨_, rfl, ?_⟩
      have l1 := ln.same s1
      obtain ⟨dx1, hx1⟩ := l1.ins
      refine ⟨a, dx1, _, rfl, hx1, lnF_no _ _ (by decide +kernel) (by decide +kernel), _, rfl, line_le (by show 2 ≤ 16777216; decide), fun t ht => ?_⟩
      have s2 := same_new (o := .tup [.int (i : Int), .int 1]) ht
      refine ⟨a, lp, fd, t, g, Su183.ofNat i, rfl, wf, l1.same s2, hpl, by show 1 ≤ 1000; decide, upd_same, fun p H2 s3 hp h3 => ?_⟩
      refine ⟨p, _, rfl, SqT.of h3, rfl, _, _, rfl, _, _, rfl, rfl, ?_⟩
      have s12 : Same H' H2 := s2.trans s3
      -- what a turn leaves where nothing is found
      have skip : FL.pointRound g k i = none → ∀ v4 v5 v6 H3, Same H' H3 → ∃ v3 v4' v5' v6' rs, [some (V.ref a), some (.int (k : Int)), some (.ref D), some (.int (i : Int)), v4, v5, v6, none, none] = [some (.ref a), some (.int (k : Int)), some (.ref D), v3, v4', v5', v6', none, none] ∧ Same H H3 ∧ H3 D = some (.lst rs) ∧ Paired (RdNe D H3) rs ((List.range (i + 1)).filterMap (FL.pointRound g k)) := by
        intro e v4 v5 v6 H3 s4
        refine ⟨_, _, _, _, rs, rfl, s1.trans s4, s4 _ _ h1, ?_⟩
        rw [fm_succ, e]
        show Paired (RdNe D H3) rs (_ ++ [])
        rw [List.append_nil]
        exact Paired.mono (fun _ _ q => RdNe.same s4 q) r1
      generalize hc : g.comes (Su183.ofNat i) = c at *
      refine ⟨_, rfl, rfl, _, rfl, ?_⟩
      refine ite2 (fun d1 => ?_) (fun d1 => ?_)
      · have d1' : V.int (c.1 : Int) = V.int 0 := of_decide_eq_true d1
        have e1 : c.1 = 0 := by
          injection d1' with d1'
          omega
        refine ⟨_, rfl, _, rfl, rfl, _, rfl, ?_⟩
        refine ite2 (fun d2 => ?_) (fun d2 => ?_)
        · have d2' : V.int (c.2 : Int) = V.int (k : Int) := of_decide_eq_true d2
          have e2 : c.2 = k := by
            injection d2' with d2'
            omega
          have ec : g.comes (Su183.ofNat i) = (0, k) := by
            rw [hc]
            exact Prod.ext e1 e2
          have l2 := ln.same (s1.trans s12)
          obtain ⟨dx2, hx2⟩ := l2.ins
          refine ⟨_, rfl, a, dx2, _, rfl, hx2, lnF_no _ _ (by decide +kernel) (by decide +kernel), _, rfl, line_le (by show 2 ≤ 16777216; decide), fun t2 ht2 => ?_⟩
          have s4 := same_new (o := .tup [.int (i : Int), .int 1]) ht2
          refine ⟨_, rfl, a, lp, fd, t2, g, Su183.ofNat i, k, rfl, wf, l2.same s4, hpl, by show 1 ≤ 1000; decide, upd_same, k0, by omega, fun L fs H3 s5 hL h5 r5 => ?_⟩
          have s25 : Same H2 H3 := s4.trans s5
          have lfs := Paired.length r5
          rw [FL.way_length] at lfs
          refine ⟨L, rfl, ⟨_, SqL.of h5⟩, fun C hC => ?_⟩
          refine lc_list (K := K) (a := L) (xs := fs) (fun j H4 => Same H3 H4 ∧ H4 C = some (.lst (intV (((g.way (Su183.ofNat i) k).take j).map (·.1))))) ⟨same_new hC, upd_same⟩ (fun j H4 _ q => SqL.of (q.1 _ _ h5)) ?_ ?_
          · rintro j y H4 hy ⟨s6, h6'⟩
            obtain ⟨f, ef, tf, rfl, htf⟩ := paired_get r5 hy
            have hj : j < fs.length := (List.getElem?_eq_some_iff.mp hy).1
            refine ⟨tf, _, rfl, SqT.of (s6 _ _ htf), rfl, _, _, rfl, _, _, rfl, rfl, rfl, _, rfl, _, h6', line_lt ?_, same_upd s6 hC, ?_⟩
            · rw [intV_len, List.length_map, List.length_take]
              omega
            · rw [upd_same, List.take_add_one, ef, List.map_append, intV_append]
              rfl
          · rintro H4 ⟨s6, h6'⟩
            rw [lfs, List.take_of_length_le (by rw [FL.way_length]; exact Nat.le_refl _)] at h6'
            have hpp : (g.way (Su183.ofNat i) k).map (·.1) = FL.pointPl g k i := rfl
            rw [hpp] at h6'
            have pne : FL.pointPl g k i ≠ [] := by
              intro z
              have := congrArg List.length z
              unfold FL.pointPl at this
              rw [List.length_map, FL.way_length, List.length_nil] at this
              omega
            refine ⟨_, rfl, _, rfl, C, _, rfl, SqL.of h6', ?_, fun m m1 m2 => ?_⟩
            · cases e : FL.pointPl g k i with
              | nil => exact absurd e pne
              | cons _ _ => simp
            · have em := FL.minL_unique m1 m2
              refine ⟨rfl, _, rfl, ?_⟩
              have epr : FL.pointRound g k i = if (i : Int) = FL.minL (FL.pointPl g k i) then some (FL.pointPl g k i, 1) else none := by
                unfold FL.pointRound
                by_cases q : (i : Int) = FL.minL (FL.pointPl g k i)
                · rw [if_pos ⟨ec, q⟩, if_pos q]
                · rw [if_neg (fun z => q z.2), if_neg q]
              rw [em] at epr
              have s34 : Same H' H4 := s12.trans (s25.trans s6)
              refine ite2 (fun d3 => ?_) (fun d3 => ?_)
              · have d3' : V.int (i : Int) = V.int m := of_decide_eq_true d3
                have e3 : (i : Int) = m := by injection d3'
                rw [if_pos e3] at epr
                have h1' := s34 _ _ h1
                refine ⟨_, rfl, .inl ⟨rfl, _, SqL.of h1'⟩, _, rfl, line_le (by show 2 ≤ 16777216; decide), fun t3 ht3 => ?_⟩
                have s7 := same_new (o := .tup [.ref C, .int 1]) ht3
                refine ⟨D, _, _, rfl, rfl, s7 _ _ h1', line_lt (by omega), ?_⟩
                have hDC : C ≠ D := by
                  intro z
                  rw [z, s12.trans s25 _ _ h1] at hC
                  cases hC
                have hDt : t3 ≠ D := (ne_of_none h1' ht3).symm
                refine ⟨some (.int (i : Int)), some (.int (c.1 : Int)), some (.int (c.2 : Int)), some (.ref C), _, rfl, same_upd (s1.trans (s34.trans s7)) hD, upd_same, ?_⟩
                rw [fm_succ, epr]
                refine Paired.snoc (Paired.mono (fun _ _ q => RdNe.over (s7 _ _ h1') (RdNe.same (s34.trans s7) q)) r1) (RdNe.over (s7 _ _ h1') ⟨t3, C, rfl, upd_same, s7 _ _ h6', hDC⟩)
              · have e3 : ¬ (i : Int) = m := fun z => d3 (by
                  show decide (V.int (i : Int) = V.int m) = true
                  rw [z]
                  exact decide_eq_true rfl)
                rw [if_neg e3] at epr
                exact skip epr _ _ _ _ s34
        · have e2 : c.2 ≠ k := fun z => d2 (by
            show decide (V.int (c.2 : Int) = V.int (k : Int)) = true
            rw [z]
            exact decide_eq_true rfl)
          refine skip ?_ _ _ _ _ s12
          unfold FL.pointRound
          rw [if_neg]
          rintro ⟨q, _⟩
          rw [hc] at q
          exact e2 (congrArg Prod.snd q)
      · have e1 : c.1 ≠ 0 := fun z => d1 (by
          show decide (V.int (c.1 : Int) = V.int 0) = true
          rw [z]
          exact decide_eq_true rfl)
        refine iteF (skip ?_ _ _ _ _ s12)
        unfold FL.pointRound
        rw [if_neg]
        rintro ⟨q, _⟩
        rw [hc] at q
        exact e1 (congrArg Prod.fst q)
    · rintro σ H' ⟨v3, v4, v5, v6, rs, rfl, s1, h1, r1⟩
      refine ⟨_, rfl, ?_⟩
      exact kk D rs H' s1 hD h1 (Paired.mono (fun _ _ q => q.at) r1)
end
end FW

namespace FW
open PySem PySem.Spec PyProof.Rows L2
open Su183 (Abs Frac)
open FL (WF Pl)
section
variable {P : Program} {w : World} {K : PySem.W.Frag} {mg : Str → Option Value} {base : Heap} {A : Ad}
/-! ## key_of, over the heap itself: all that stood stays -/
theorem key_raw (T : Txt K mg A) {AA : Around} {s : Shared} (X : K.In s.heap) (lim : s.heap.NoLimit) (G : s.heap.Ns mainGlobals mg) (hh : AA.handled = none) (hd : AA.depth < recursionLimit)
    {t q : Addr} {its its2 : List Value} {x0 m : Int} {k1 k2 : Tok} (ht : IsTup s.heap t its.toArray) (ei : its = [.ref q, .int m k1]) (hq : PlainL s.heap q its2.toArray) (e0 : its2.toArray[0]? = some (.int x0 k2)) (m0 : 0 < m) (m1 : m < 1073741824) :
    wpAny (model P w) AA (call (.ref A.key_of.a) [.ref t]) (PySem.W.KeyPure (.int (x0 * 1000000000000 / m)) s) (fun _ _ => False) s := by
  subst ei
  obtain ⟨oc, od, kV, doc, pm, an, cdv, ct, osl, e, lk, hcd⟩ := T.key_of.fn.ex
  rw [e] at lk
  refine wpAny_call (_root_.Att.call_fn (binds := [("one", .ref t)]) X lim lk hcd hd (BindsTo.of_eq (by first | rfl | with_unfolding_all rfl)) (by first | rfl | decide +kernel | with_unfolding_all rfl) (fun s₁ IC => ?_) rfl rfl rfl)
  obtain ⟨h1, tk1, rfl⟩ := IC.toInCall.same
  have kp1 : ∀ b o, s.heap.get? b = some o → h1.get? b = some o := IC.toInCall.keep
  have hn1 := IC.toInCall.ns
  have hnL : s.heap.get? s.heap.objs.size = none := Heap.get?_none_of_le (Nat.le_refl _)
  have nL : ∀ {b : Addr} {o : Obj}, s.heap.get? b = some o → b ≠ s.heap.objs.size := fun e => Nat.ne_of_lt (Heap.lt_size e)
  obtain ⟨ot, hot, hotc, nt, hotd⟩ := id ht
  refine wpAny_execs_cons ?_
  refine wpAny_Assign_stores ?_ (by rfl) (by rfl)
  refine wpAny_Name (wpAny_loadName_local (v := .ref t) (by rfl) (by rfl) hn1 (by rfl) ?_) (by decide)
  refine assign_Tuple_tuple (x1 := 0) (items := [Value.ref q, .int m k1].toArray) (by exact hh) ⟨ot, kp1 _ _ hot, hotc, nt, hotd⟩ (by rfl) (by rfl) fun h2 hx2 => ?_
  have k12 : ∀ b o, h1.get? b = some o → h2.get? b = some o := fun b o e => hx2 b o (Nat.ne_of_lt (Heap.lt_size e)) e
  have hn2 := hn1.keeps k12
  refine assignInOrder_cons (wpAny_assign_Name (wpAny_storeName_local (by rfl) hn2 (fun h3 hn3 hs3 => ?_) (by rfl)))
  refine assignInOrder_cons (wpAny_assign_Name (wpAny_storeName_local (by rfl) hn3 (fun h4 hn4 hs4 => ?_) (by rfl)))
  refine assignInOrder_nil ?_
  have kp4 : ∀ b o, s.heap.get? b = some o → h4.get? b = some o := fun b o e => (hs4.2 b (nL e)).trans ((hs3.2 b (nL e)).trans (k12 b o (kp1 b o e)))
  show wpAny _ _ (execs _ _) _ _ _
  refine wpAny_execs_cons ?_
  refine wpAny_Return_some ?_
  refine wpAny_BinOp (wpAny_BinOp ?_)
  refine Subscript_ (wpAny_Name (wpAny_loadName_local (v := .ref q) (by rfl) (by rfl) hn4 (by rfl) ?_) (by decide))
  refine wpAny_Constant_int ?_
  obtain ⟨oq, nq, hoq, hoqc, hoqd, hoqs⟩ := id hq
  have hl : PlainL h4 q its2.toArray := ⟨oq, nq, kp4 _ _ hoq, hoqc, hoqd, hoqs⟩
  refine item_listR hl.isList (by decide) (by decide) e0 ?_ (by rfl)
  obtain ⟨ts, hts⟩ := T.c_SCALE
  refine Calls.Name_function_global (by rfl) (by rfl) (Calls.loadGlobal_global (by exact G.keeps kp4) hts ?_) (by decide)
  refine mul_int ?_ (CMul.ok (.inr ⟨by decide, by decide⟩))
  refine wpAny_Name (wpAny_loadName_local (v := .int m k1) (by rfl) (by rfl) hn4 (by rfl) ?_) (by decide)
  refine floordiv_int (by omega) ?_ (.inl (PyProof.noPylong_small (by omega)))
  rw [Int.fdiv_eq_ediv_of_nonneg _ (by omega)]
  exact ⟨h4, _, rfl, kp4, .int _ _⟩
end
end FW

namespace FW
open PySem PySem.Spec PyProof.Rows L2
open Su183 (Abs Frac)
open FL (WF Pl)
/-! ## sorted(.., key=key_of) -/
def KeyOk (r : FL.Rd) : Prop := 0 < r.2 ∧ r.2 < 1073741824 ∧ r.1 ≠ []
def rSortedBy (K : PySem.W.Frag) (f : Addr) : List V → List V → Hp → VK → Prop := fun vs zs H Q => ∃ (a : Addr) (xs : List V) (rs : List FL.Rd), vs = [.ref a] ∧ zs = [.ref f] ∧ SqL K H a xs ∧ Rds H xs rs ∧ (∀ r ∈ rs, KeyOk r) ∧
  ∀ xs' rs' p H', Same H H' → H p = none → H' p = some (.lst xs') → Rds H' xs' rs' → rs'.Perm rs → rs'.Pairwise (fun a b => FL.keyOf a ≤ FL.keyOf b) → Q (.ref p) H'
/-- an item as the sort sees it -/
def ItR (H : Hp) (u : Value) (b : V × FL.Rd) : Prop := RelV b.1 u ∧ RdAt H b.1 b.2
theorem each_in {H : Hp} : ∀ {xs : List V} {its : List Value} {rs : List FL.Rd}, Vals xs its → Rds H xs rs → PySem.W.EachIs (ItR H) its (xs.zip rs)
  | _, _, _, .nil, .nil => .nil
  | _, _, _, .cons h t, .cons h' t' => .cons ⟨h, h'⟩ (each_in t t')
theorem each_vals {H : Hp} : ∀ {its : List Value} {bs : List (V × FL.Rd)}, PySem.W.EachIs (ItR H) its bs → Vals (bs.map (·.1)) its ∧ Rds H (bs.map (·.1)) (bs.map (·.2))
  | _, _, .nil => ⟨.nil, .nil⟩
  | _, _, .cons h t => ⟨.cons h.1 (each_vals t).1, .cons h.2 (each_vals t).2⟩
theorem zip_snd {α β : Type} : ∀ {xs : List α} {ys : List β}, xs.length = ys.length → (xs.zip ys).map (·.2) = ys
  | [], [], _ => rfl
  | _ :: xs, y :: ys, h => by
    have h' : xs.length = ys.length := by simpa using h
    rw [List.zip_cons_cons, List.map_cons, zip_snd h']
  | [], _ :: _, h => by simp at h
  | _ :: _, [], h => by simp at h
theorem cr_sortedBy {X : Cx} {A : Ad} (T : Txt X.K X.mg A) (hc : X.calm = true) (hu : X.A.units + 10 < cLine) (hd : X.A.depth + 5 < recursionLimit) : CallRK X (.builtin "sorted") [Str.ofString "key"] (rSortedBy X.K A.key_of.a) := by
  intro pins s σ H vs zs us ws Q I r rz h
  obtain ⟨a, xs, rs, rfl, rfl, hs, hr, hk, q⟩ := h
  obtain rfl := Vals.ref1 r
  obtain rfl := Vals.ref1 rz
  obtain ⟨its, rv, hl, hz⟩ := I.list hs
  have e := each_in rv hr
  have hlen : xs.length = rs.length := Paired.length hr
  have hbl : (xs.zip rs).length = xs.length := by rw [List.length_zip, ← hlen]; exact Nat.min_self _
  refine PySem.W.sorted_key_data (b := false) (kw := [Str.ofString "key"].zip [Value.ref A.key_of.a]) (fun b : V × FL.Rd => .int (FL.keyOf b.2)) hl.isList e (PySem.W.AllAlike.of fun _ _ => by simp [PySem.W.alike]) (PySem.W.Sortable.others fun _ => ⟨(fun z => nomatch z), fun _ z => nomatch z⟩) (by rw [hbl]; exact hz)
    (fun b _ => ?_) (ksk_s1 _ _) (fun _ => ksk_l1 _ _) (fun _ => ksk_t1 _ _) (fun v b hR hb h tk kp => ?_) fun out c h' tk kp fresh hD hol eo => ?_
  · have : (PyData.int (FL.keyOf b.2)).depth = 0 := by simp [PyData.depth]
    omega
  · obtain ⟨hv, t, qd, ev, h1, h2⟩ := hR
    have hb2 : b.2 ∈ rs := by
      have := List.mem_map_of_mem (f := fun (x : V × FL.Rd) => x.2) hb
      rw [zip_snd hlen] at this
      exact this
    obtain ⟨m0, m1, pne⟩ := hk _ hb2
    rw [ev] at hv
    obtain rfl : v = Value.ref t := hv
    obtain ⟨z1, it1, r1, ht⟩ := (show ObjOk X.prog X.w H s.heap t (.tup [.ref qd, .int b.2.2]) from I.hok t _ h1)
    obtain ⟨z2, it2, n2, r2, hq⟩ := (show ObjOk X.prog X.w H s.heap qd (.lst (intV b.2.1)) from I.hok qd _ h2)
    obtain ⟨ot, hot, hotc, nt, hotd⟩ := ht
    obtain ⟨u1, u2, ei, ru1, ru2⟩ := vals2 r1
    obtain rfl : u1 = Value.ref qd := ru1
    obtain ⟨k1, rfl⟩ := ru2
    have hx : ∃ x0, b.2.1.headD 0 = x0 ∧ (intV b.2.1)[0]? = some (.int x0) := by
      cases e : b.2.1 with
      | nil => exact absurd e pne
      | cons y l => exact ⟨y, rfl, rfl⟩
    obtain ⟨x0, ex0, ex1⟩ := hx
    obtain ⟨u0, eu0, ru0⟩ := Vals.get r2 ex1
    obtain ⟨k2, rfl⟩ := ru0
    have key := key_raw (P := X.prog) (w := X.w) T (AA := X.A.in1.in1) (s := { s with heap := h, toks := tk }) (t := t) (q := qd) (its := it1) (its2 := it2) (x0 := x0) (m := b.2.2) (k1 := k1) (k2 := k2) (I.kIn.keeps kp) (I.nolimit.keeps kp) ((I.mod.glob.keeps I.bk).keeps kp) (I.ok.hd hc) (by show X.A.depth < _; omega)
      ⟨ot, kp _ _ hot, hotc, nt, hotd⟩ ei ⟨_, n2, kp _ _ hq, rfl, rfl, rfl⟩ (by simpa using eu0) m0 m1
    have ek : FL.keyOf b.2 = x0 * 1000000000000 / b.2.2 := by
      unfold FL.keyOf
      rw [ex0]
      rfl
    rw [ek]
    exact key
  · rw [PySem.W.dataLe_int (fun b : V × FL.Rd => FL.keyOf b.2)] at eo
    have perm := List.mergeSort_perm (xs.zip rs) (fun a b => decide (FL.keyOf a.2 ≤ FL.keyOf b.2))
    have pw := List.pairwise_mergeSort (le := fun (a b : V × FL.Rd) => decide (FL.keyOf a.2 ≤ FL.keyOf b.2)) (fun a b c h1 h2 => by
      rw [decide_eq_true_iff] at *
      omega) (fun a b => by
      rw [Bool.or_eq_true, decide_eq_true_iff, decide_eq_true_iff]
      omega) (xs.zip rs)
    generalize (xs.zip rs).mergeSort (fun a b => decide (FL.keyOf a.2 ≤ FL.keyOf b.2)) = bs at *
    obtain ⟨v1, v2⟩ := each_vals eo
    have hp : H (s.heap.objs.size + 1) = none := I.hok.fresh (Nat.le_succ _)
    have hl2 : (bs.map (·.1)).length ≤ sizeLine := by
      rw [List.length_map, perm.length_eq, hbl]
      exact hz
    refine ⟨.ref _, upd H (s.heap.objs.size + 1) (.lst (bs.map (·.1))), I.laid (t' := tk) kp (Nat.le_succ _) ⟨hl2, out, c, v1, hD⟩, rfl, ?_⟩
    have s1 := same_new (o := .lst (bs.map (·.1))) hp
    refine q _ (bs.map (·.2)) _ _ s1 hp upd_same (Rds.same s1 v2) ?_ ?_
    · have := perm.map (·.2)
      rw [zip_snd hlen] at this
      exact this
    · rw [List.pairwise_map]
      exact pw.imp fun h => of_decide_eq_true h
end FW

namespace FW
open PySem PySem.Spec PyProof.Rows L2
open Su183 (Abs Frac)
open FL (WF Pl)
/-! ## What was found of a line's rounds -/
/-- the rounds of k steps, in order -/
structure IsR (g : Abs) (k : Nat) (ys : List FL.Rd) : Prop where
  perm : ys.Perm (FL.someR g k)
  ord : ys.Pairwise fun a b => FL.keyOf a ≤ FL.keyOf b
def CacheAt (H : Hp) (v : V) (g : Abs) (k : Nat) : Prop := ∃ r rs ys, v = .ref r ∧ H r = some (.lst rs) ∧ Rds H rs ys ∧ IsR g k ys
/-- lists and tuples stay -/
def SameLT (H H' : Hp) : Prop := ∀ b o, H b = some o → ((∃ xs, o = .lst xs) ∨ (∃ xs, o = .tup xs) ∨ ∃ ob u, o = .frz ob u) → H' b = some o
theorem SameLT.of {H H' : Hp} (s : Same H H') : SameLT H H' := fun b o e _ => s b o e
theorem SameLT.seq {K : PySem.W.Frag} {H H' : Hp} (s : SameLT H H') {a : Addr} {xs : List V} (h : SqL K H a xs) : SqL K H' a xs := by
  rcases h with (h | ⟨o, h⟩) | h
  · exact .inl (.inl (s _ _ h (.inl ⟨_, rfl⟩)))
  · exact .inl (.inr ⟨o, s _ _ h (.inr (.inr ⟨_, _, rfl⟩))⟩)
  · exact .inr h
theorem RdAt.lt {H H' : Hp} (s : SameLT H H') {v : V} {r : FL.Rd} (h : RdAt H v r) : RdAt H' v r := by
  obtain ⟨t, q, e, h1, h2⟩ := h
  exact ⟨t, q, e, s _ _ h1 (.inr (.inl ⟨_, rfl⟩)), s _ _ h2 (.inl ⟨_, rfl⟩)⟩
theorem CacheAt.lt {H H' : Hp} (s : SameLT H H') {v : V} {g : Abs} {k : Nat} (h : CacheAt H v g k) : CacheAt H' v g k := by
  obtain ⟨r, rs, ys, e, h1, h2, h3⟩ := h
  exact ⟨r, rs, ys, e, s _ _ h1 (.inl ⟨_, rfl⟩), Paired.mono (fun _ _ q => RdAt.lt s q) h2, h3⟩
theorem SameLT.dict {H : Hp} {fd : Addr} {kvs kvs' : List (Key × V)} (h : H fd = some (.dK kvs)) : SameLT H (upd H fd (.dK kvs')) := fun b o e c => by
  have nb : b ≠ fd := by
    rintro rfl
    rw [h] at e
    cases e
    rcases c with ⟨_, c⟩ | ⟨_, c⟩ | ⟨_, _, c⟩ <;> cases c
  rw [upd_ne nb]
  exact e
structure FoundOk (H : Hp) (kvs : List (Key × V)) (g : Abs) : Prop where
  at_ : ∀ j v, valV kvs j = some v → ∃ k : Nat, j = .inl (k : Int) ∧ 0 < k ∧ k ≤ 6 ∧ CacheAt H v g k
  nd : (kvs.map (·.1)).Nodup
theorem FoundOk.lt {H H' : Hp} (s : SameLT H H') {kvs : List (Key × V)} {g : Abs} (f : FoundOk H kvs g) : FoundOk H' kvs g :=
  ⟨fun j v e => by
    obtain ⟨k, a, b, c, d⟩ := f.at_ j v e
    exact ⟨k, a, b, c, d.lt s⟩, f.nd⟩
theorem FoundOk.len {H : Hp} {kvs : List (Key × V)} {g : Abs} (f : FoundOk H kvs g) : kvs.length ≤ 6 := by
  have sub : kvs.map (·.1) ⊆ (List.range' 1 6).map fun (k : Nat) => (Sum.inl (k : Int) : Key) := by
    intro j hj
    obtain ⟨p, hp, e⟩ := List.mem_map.mp hj
    have q : (kvs.any fun kv => decide (kv.1 = j)) = true := List.any_eq_true.mpr ⟨p, hp, decide_eq_true e⟩
    rw [valV_any] at q
    obtain ⟨v, hv⟩ := Option.isSome_iff_exists.mp q
    obtain ⟨k, ej, k0, k6, _⟩ := f.at_ j v hv
    rw [List.mem_map]
    exact ⟨k, by rw [List.mem_range'_1]; omega, ej.symm⟩
  have := List.Nodup.length_le_of_subset f.nd sub
  simpa using this
/-- a line with what was found -/
structure LnD (A : Ad) (H : Hp) (a lp fd : Addr) (g : Abs) : Prop where
  ln : Ln A H a lp fd g
  dict : ∃ kvs, H fd = some (.dK kvs) ∧ FoundOk H kvs g
theorem LnD.same {A : Ad} {H H' : Hp} {a lp fd : Addr} {g : Abs} (l : LnD A H a lp fd g) (s : Same H H') : LnD A H' a lp fd g := by
  obtain ⟨ln, kvs, h1, h2⟩ := l
  exact ⟨ln.same s, kvs, s _ _ h1, h2.lt (.of s)⟩
theorem LnD.new {A : Ad} {H : Hp} {a lp fd : Addr} {g : Abs} (ln : Ln A H a lp fd g) (h : H fd = some (.dK [])) : LnD A H a lp fd g :=
  ⟨ln, [], h, ⟨fun j v e => (by rw [valV_nil] at e; cases e), List.nodup_nil⟩⟩
/-- but at fd all stays -/
def SameX (fd : Addr) (H H' : Hp) : Prop := ∀ b o, H b = some o → b ≠ fd → H' b = some o
theorem SameX.of {fd : Addr} {H H' : Hp} (s : Same H H') : SameX fd H H' := fun b o e _ => s b o e
theorem SameX.trans {fd : Addr} {H H1 H2 : Hp} (a : SameX fd H H1) (b : SameX fd H1 H2) : SameX fd H H2 := fun c o e n => b c o (a c o e n) n
theorem SameX.upd {fd : Addr} {H : Hp} {o : HO} : SameX fd H (upd H fd o) := fun b u e n => by rw [upd_ne n]; exact e

theorem room_u {k : Nat} {B : Around} (r : Room k B) : B.units + 10 < cLine := by have := r.un; omega
theorem room_d {k : Nat} {B : Around} (r : Room k B) : B.depth + 5 < recursionLimit := by have := r.dp; omega
theorem someR_len {g : Abs} (h : WF g) {k : Nat} (k6 : k ≤ 6) : (FL.closedWalks g k).length ≤ 46656 := by
  have a := flat_len h k6 g.n
  have b := h.six
  unfold FL.closedWalks
  omega
/-- a result of round_of -/
def OpNe (D : Addr) (H : Hp) (v : V) (o : Option FL.Rd) : Prop := match o with
  | none => v = .non
  | some r => RdNe D H v r
theorem OpNe.same {D : Addr} {H H' : Hp} (s : Same H H') {v : V} : ∀ {o : Option FL.Rd}, OpNe D H v o → OpNe D H' v o
  | none, h => h
  | some _, h => RdNe.same s h
theorem OpNe.over {D : Addr} {H : Hp} {xs ys : List V} (hD : H D = some (.lst xs)) {v : V} : ∀ {o : Option FL.Rd}, OpNe D H v o → OpNe D (L2.upd H D (.lst ys)) v o
  | none, h => h
  | some _, h => RdNe.over hD h
section
variable {P : Program} {w : World} {K : PySem.W.Frag} {mg : Str → Option Value} {base : Heap} {A : Ad}

/-! ## all_rounds -/
def spAll (A : Ad) : Sp := fun vs H Q _ => ∃ (a lp fd : Addr) (g : Abs) (k : Nat), vs = [.ref a, .int (k : Int)] ∧ WF g ∧ LnD A H a lp fd g ∧ 0 < k ∧ k ≤ 6 ∧ FL.endl g k = false ∧
  ∀ v H', LnD A H' a lp fd g → SameX fd H H' → CacheAt H' v g k → Q v H'
theorem sc_all_rounds : FnScope ["line", "k", "some", "walk", "one"] ["line", "k"] (defScope s_all_rounds) := ⟨rfl, rfl, rfl, by decide +kernel, rfl, by decide +kernel, by decide +kernel⟩
theorem ok_all_rounds (T : Txt K mg A) : FnOk P w K mg base CX0 6 A.all_rounds.a A.all_rounds.d ["line", "k"] (spAll A) := by
  refine T.all_rounds.fn.ok sc_all_rounds (fun vs H Q E h => ?_) (fun cdv B outer s H vs Q E hr h => ?_)
  · obtain ⟨a, lp, fd, g, k, rfl, _⟩ := h
    rfl
  · obtain ⟨a, lp, fd, g, k, rfl, wf, lnd, k0, k6, ne, kk⟩ := h
    have hun := hr.un
    have hdp := hr.dp
    have hu := hu_of hr
    refine ⟨_, pss_cons (ps_if (pt_cmp (pc_dnotin hu (pv 1) (pe_fld (pv 0) rfl)))
        (pss_cons (ps_setLc (i := 2) (own := [("walk", 3)]) (tt := tYes) rfl sc_all_rounds.nd rfl rfl (sw_true rfl rfl rfl (by decide +kernel))
            (pi_list (pe_call (ok_closed_walks T) (hr.mono (by decide)) (by rfl) T.closed_walks.mg T.closed_walks.fn.kp T.closed_walks.b .nil pass0 (pa_cons (pv 0) (pa_cons (pv 1) pa_nil))))
            (blkOk_by (own := [("walk", 3)]) (N := ["line", "k", "some", "walk", "one"]) (sc := defScope s_all_rounds) (by decide +kernel))
            (fun _ _ _ _ _ => pg_name (i := 3) sc_all_rounds.nd rfl (Or.inl rfl)) (fun _ _ _ _ _ => pts_nil)
            (fun _ _ _ _ _ => pe_call (ok_round_of T) (hr.mono (by decide)) (by rfl) T.round_of.mg T.round_of.fn.kp T.round_of.b .nil pass0 (pa_cons (pv 0) (pa_cons (pv 3) pa_nil))))
        (pss_cons (ps_set (i := 2) sc_all_rounds.nd rfl (.inl rfl) (pe_op op_cat
            (pe_lc (own := [("one", 4)]) (g := gName 4) rfl sc_all_rounds.nd (pi_list (pv 2))
              (blkOk_by (own := [("one", 4)]) (N := ["line", "k", "some", "walk", "one"]) (sc := defScope s_all_rounds) (by decide +kernel))
              (fun _ _ _ _ _ => pg_name (i := 4) sc_all_rounds.nd rfl (Or.inl rfl)) (fun _ _ _ _ _ => pts_one (pt_cmpR op_notN (pv 4) pe_non (nomark _))) (fun _ _ _ _ _ => pv 4))
            (pe_call (ok_point_rounds T) hr (by rfl) T.point_rounds.mg T.point_rounds.fn.kp T.point_rounds.b .nil pass0 (pa_cons (pv 0) (pa_cons (pv 1) pa_nil)))))
        (pss_one (ps_dput hu (pe_fld (pv 0) rfl) (pv 1) (pe_callBK (cr_sortedBy T rfl (room_u hr) (room_d hr)) (by rfl) T.b_sorted (by decide +kernel) (pa_cons (pv 2) pa_nil) (pk_cons (pe_glob (v := .ref A.key_of.a) (by rfl) T.key_of.mg rfl) pk_nil)) rfl)))) pss_nil)
      (pss_one (ps_ret (pe_dget hu (pe_fld (pv 0) rfl) (pv 1) (fun _ _ => rfl)))), ?_⟩
    obtain ⟨ln, kvs, hfd, fo⟩ := id lnd
    obtain ⟨dx, hx⟩ := ln.ins
    refine ⟨_, rfl, _, rfl, a, _, dx, _, _, rfl, hx, T.clL, T.nFound, lnF_found _ _, fd, _, rfl, DGet.k (k := Sum.inl (k : Int)) hfd, _, rfl, ?_⟩
    cases e : valV kvs (Sum.inl (k : Int)) with
    | some v =>
      refine iteF ?_
      refine ⟨_, rfl, a, _, dx, _, _, rfl, hx, T.clL, T.nFound, lnF_found _ _, _, rfl, fd, v, rfl, by rw [← e]; exact DGet.k (k := Sum.inl (k : Int)) hfd, ?_⟩
      obtain ⟨k', ej, _, _, c⟩ := fo.at_ _ _ e
      have ek : k' = k := by
        injection ej with ej
        omega
      rw [ek] at c
      exact kk v H lnd (fun _ _ e _ => e) c
    | none =>
      refine iteT ?_
      -- the walks' rounds
      refine ⟨_, rfl, _, rfl, a, lp, fd, g, k, rfl, wf, ln, k0, k6, fun L ls H1 s1 hL h1 r1 => ?_⟩
      have lls := Paired.length r1
      have lcw := someR_len wf k6
      refine ⟨L, rfl, ⟨_, SqL.of h1⟩, fun D hD => ?_⟩
      refine lc_list (K := K) (a := L) (xs := ls) (fun j H2 => ∃ cs, Same H1 H2 ∧ H2 D = some (.lst cs) ∧ Paired (OpNe D H2) cs (((FL.closedWalks g k).take j).map (FL.roundOf g)))
        ⟨[], same_new hD, upd_same, .nil⟩ (fun j H2 _ ⟨_, s2, _⟩ => SqL.of (s2 _ _ h1)) ?_ ?_
      · rintro j y H2 hy ⟨cs, s2, h2, r2⟩
        obtain ⟨u, eu, tu, rfl, htu⟩ := paired_get r1 hy
        have hu' := List.mem_of_getElem? eu
        obtain ⟨cl, ulen, _⟩ := (FL.mem_closedWalks k0).mp hu'
        obtain ⟨fB, _, _⟩ := FL.walk_fix wf k0 ne hu'
        have une : u ≠ [] := by
          intro z
          rw [z] at ulen
          simp at ulen
          omega
        have lcs := Paired.length r2
        have hj : j < (FL.closedWalks g k).length := (List.getElem?_eq_some_iff.mp eu).1
        rw [List.length_map, List.length_take] at lcs
        refine ⟨rfl, ?_⟩
        refine ⟨_, rfl, _, rfl, a, lp, fd, tu, g, u, rfl, wf, ln.same (s1.trans s2), s2 _ _ htu, cl.lt, une, by omega, fB, fun H3 s3 er => ?_, fun v r H3 s3 er rd => ?_⟩
        · refine ⟨cs, s3 _ _ h2, line_lt (by omega), _, same_upd (s2.trans s3) hD, upd_same, ?_⟩
          rw [List.take_add_one, eu, List.map_append]
          refine Paired.snoc (Paired.mono (fun _ _ q => OpNe.over (s3 _ _ h2) (OpNe.same s3 q)) r2) ?_
          rw [er]
          rfl
        · refine ⟨cs, s3 _ _ h2, line_lt (by omega), _, same_upd (s2.trans s3) hD, upd_same, ?_⟩
          rw [List.take_add_one, eu, List.map_append]
          refine Paired.snoc (Paired.mono (fun _ _ q => OpNe.over (s3 _ _ h2) (OpNe.same s3 q)) r2) ?_
          rw [er]
          obtain ⟨t, q, ev, nq, q1, q2⟩ := rd
          exact RdNe.over (s3 _ _ h2) ⟨t, q, ev, q1, q2, fun z => by rw [z, h2] at nq; cases nq⟩
      · rintro H2 ⟨cs, s2, h2, r2⟩
        rw [lls, List.take_length] at r2
        have lcs := Paired.length r2
        rw [List.length_map] at lcs
        -- those that are rounds
        refine ⟨_, rfl, D, rfl, ⟨_, SqL.of h2⟩, fun D2 hD2 => ?_⟩
        refine lc_list (K := K) (a := D) (xs := cs) (fun j H3 => ∃ ds, Same H2 H3 ∧ H3 D2 = some (.lst ds) ∧ Rds H2 ds (((FL.closedWalks g k).take j).filterMap (FL.roundOf g)))
          ⟨[], same_new hD2, upd_same, .nil⟩ (fun j H3 _ ⟨_, s3, _⟩ => SqL.of (s3 _ _ h2)) ?_ ?_
        · rintro j y H3 hy ⟨ds, s3, h3, r3⟩
          obtain ⟨o, eo, ho⟩ := paired_get r2 hy
          rw [List.getElem?_map] at eo
          obtain ⟨u, eu, euo⟩ := Option.map_eq_some_iff.mp eo
          have lds := Paired.length r3
          have lfm := List.length_filterMap_le (FL.roundOf g) ((FL.closedWalks g k).take j)
          rw [List.length_take] at lfm
          refine ⟨rfl, ?_⟩
          refine ⟨_, rfl, rfl, _, rfl, ?_⟩
          rw [List.take_add_one, eu, List.filterMap_append]
          cases o with
          | none =>
            obtain rfl : y = .non := ho
            refine ite2 (fun z => absurd z (by decide)) (fun _ => ?_)
            have e2 : List.filterMap (FL.roundOf g) (some u).toList = [] := by
              show List.filterMap (FL.roundOf g) [u] = []
              rw [List.filterMap_cons, euo]
              rfl
            rw [e2, List.append_nil]
            exact ⟨ds, s3, h3, r3⟩
          | some r =>
            have rd := RdNe.at (show RdNe D H2 y r from ho)
            obtain ⟨t, q, ey, q1, q2⟩ := id rd
            subst ey
            refine ite2 (fun _ => ?_) (fun z => absurd (by show (!decide (V.ref t = V.non)) = true; rw [decide_eq_false (fun z => nomatch z)]; rfl) z)
            refine ⟨_, rfl, ds, h3, line_lt (by omega), _, same_upd s3 hD2, upd_same, ?_⟩
            have e2 : List.filterMap (FL.roundOf g) (some u).toList = [r] := by
              show List.filterMap (FL.roundOf g) [u] = [r]
              rw [List.filterMap_cons, euo]
              rfl
            rw [e2]
            exact Paired.snoc r3 rd
        · rintro H3 ⟨ds, s3, h3, r3⟩
          rw [lcs, List.take_length] at r3
          have lds := Paired.length r3
          have lfm := List.length_filterMap_le (FL.roundOf g) (FL.closedWalks g k)
          have s13 : Same H H3 := s1.trans (s2.trans s3)
          refine ⟨_, rfl, _, rfl, a, lp, fd, g, k, rfl, wf, ln.same s13, k0, k6, fun D3 ps H4 s4 hD3 h4 r4 => ?_⟩
          have lps := Paired.length r4
          have lpm := fm_len (f := FL.pointRound g k) (g.n + 1)
          have h6 := wf.six
          refine ⟨D2, D3, _, _, rfl, rfl, s4 _ _ h3, h4, line_le (by omega), fun D4 hD4 => ?_⟩
          have s5 := same_new (o := .lst (ds ++ ps)) hD4
          have rall : Rds (L2.upd H4 D4 (.lst (ds ++ ps))) (ds ++ ps) (FL.someR g k) := by
            unfold FL.someR
            exact paired_append (Rds.same ((s3.trans s4).trans s5) r3) (Rds.same s5 r4)
          -- in order
          refine ⟨_, rfl, D4, _, _, rfl, rfl, SqL.of upd_same, rall, fun r hr' => ?_, fun xs' rs' p H5 s6 hp h5 r5 perm ord => ?_⟩
          · obtain ⟨X, Bq, b0, b1, er, _⟩ := FL.rnd_of wf k0 ne hr'
            have p6 : 6 ^ k ≤ 6 ^ 6 := Nat.pow_le_pow_right (by decide) k6
            have e6 : 6 ^ 6 = 46656 := by decide
            rw [er]
            refine ⟨by show (0 : Int) < Bq; omega, by show (Bq : Int) < _; omega, fun z => ?_⟩
            have := congrArg List.length z
            simp at this
            omega
          · have s15 : Same H H5 := s13.trans (s4.trans (s5.trans s6))
            have ln5 := ln.same s15
            obtain ⟨dx5, hx5⟩ := ln5.ins
            have hfd5 := s15 _ _ hfd
            have fo5 := fo.lt (.of s15)
            have flen := fo.len
            have lt6 := SameLT.dict (kvs' := putK kvs (Sum.inl (k : Int)) (.ref p)) hfd5
            have nafd : a ≠ fd := ne_of hx5 hfd5 (by intro z; cases z)
            have nlfd : lp ≠ fd := ne_of ln5.pts hfd5 (by intro z; cases z)
            have cp : CacheAt (L2.upd H5 fd (.dK (putK kvs (Sum.inl (k : Int)) (.ref p)))) (.ref p) g k := CacheAt.lt lt6 ⟨p, xs', rs', rfl, h5, r5, ⟨perm, ord⟩⟩
            have lnd6 : LnD A (L2.upd H5 fd (.dK (putK kvs (Sum.inl (k : Int)) (.ref p)))) a lp fd g := by
              refine ⟨⟨⟨dx5, by rw [upd_ne nafd]; exact hx5⟩, by rw [upd_ne nlfd]; exact ln5.pts⟩, _, upd_same, ⟨fun j v ej => ?_, nd_putK _ fo.nd e⟩⟩
              rw [valV_put] at ej
              by_cases z : j = Sum.inl (k : Int)
              · rw [if_pos z] at ej
                have ev : V.ref p = v := Option.some.inj ej
                rw [← ev]
                exact ⟨k, z, k0, k6, cp⟩
              · rw [if_neg z] at ej
                obtain ⟨k', a1, a2, a3, a4⟩ := fo5.at_ j v ej
                exact ⟨k', a1, a2, a3, a4.lt lt6⟩
            refine ⟨_, rfl, a, _, dx5, _, _, rfl, hx5, T.clL, T.nFound, lnF_found _ _, _, rfl, fd, _, rfl, DPut.k (k := Sum.inl (k : Int)) hfd5 (line_lt (by omega)), ?_⟩
            obtain ⟨dx6, hx6⟩ := lnd6.ln.ins
            refine ⟨_, rfl, a, _, dx6, _, _, rfl, hx6, T.clL, T.nFound, lnF_found _ _, _, rfl, fd, .ref p, rfl, ?_, ?_⟩
            · have dg := DGet.k (k := Sum.inl (k : Int)) (H := L2.upd H5 fd (.dK (putK kvs (Sum.inl (k : Int)) (.ref p)))) (a := fd) upd_same
              rw [valV_put, if_pos rfl] at dg
              exact dg
            · exact kk _ _ lnd6 ((SameX.of s15).trans SameX.upd) cp
end
end FW

namespace FW
open PySem PySem.Spec PyProof.Rows L2
open Su183 (Abs Frac)
open FL (WF Pl)
/-! ## rounds as data -/
def rdD (r : FL.Rd) : PyData := .tuple [.list (r.1.map .int), .int r.2]
theorem intD_dps {K : PySem.W.Frag} {H : Hp} : ∀ (l : List Int), DpAll K H (intV l) (l.map .int)
  | [] => .nil
  | i :: l => .cons (.int i) (intD_dps l)
theorem rdD_dp {K : PySem.W.Frag} {H : Hp} {v : V} {r : FL.Rd} (h : RdAt H v r) : Dp K H v (rdD r) := by
  obtain ⟨t, q, rfl, h1, h2⟩ := h
  exact .tup (SqT.of h1) (.cons (.lst (SqL.of h2) (intD_dps _)) (.cons (.int _) .nil))
theorem rdD_dps {K : PySem.W.Frag} {H : Hp} : ∀ {vs : List V} {rs : List FL.Rd}, Rds H vs rs → DpAll K H vs (rs.map rdD)
  | _, _, .nil => .nil
  | _, _, .cons h t => .cons (rdD_dp h) (rdD_dps t)
theorem intD_lay : ∀ l : List Int, PyData.canLayAll0 (l.map .int) = true
  | [] => by simp [PyData.canLayAll0]
  | i :: l => by simp [PyData.canLayAll0, PyData.canLay0, intD_lay l]
theorem intD_depth : ∀ l : List Int, PyData.depthAll (l.map .int) ≤ 0
  | [] => by simp [PyData.depthAll]
  | i :: l => by
    have a := intD_depth l
    simp only [List.map_cons, PyData.depthAll, PyData.depth]
    omega
theorem rdD_lay (r : FL.Rd) : (rdD r).canLay0 = true := by simp [rdD, PyData.canLay0, PyData.canLayAll0, intD_lay r.1]
theorem rdD_depth (r : FL.Rd) : (rdD r).depth ≤ 2 := by
  have a := intD_depth r.1
  simp only [rdD, PyData.depth, PyData.depthAll]
  omega
theorem rdDs_lay : ∀ rs : List FL.Rd, PyData.canLayAll0 (rs.map rdD) = true
  | [] => by simp [PyData.canLayAll0]
  | r :: rs => by simp [PyData.canLayAll0, rdD_lay r, rdDs_lay rs]
theorem rdDs_depth : ∀ rs : List FL.Rd, PyData.depthAll (rs.map rdD) ≤ 2
  | [] => by simp [PyData.depthAll]
  | r :: rs => by
    have a := rdDs_depth rs
    have b := rdD_depth r
    simp only [List.map_cons, PyData.depthAll]
    omega
theorem rdDs_shaped (rs : List FL.Rd) : SeqAt.shaped (.list (rs.map rdD)) = true := by
  unfold SeqAt.shaped
  have a := rdDs_depth rs
  have b : PyData.depth (.list (rs.map rdD)) ≤ 64 := by
    simp only [PyData.depth]
    omega
  have c : PyData.canLay0 (.list (rs.map rdD)) = true := by
    simp only [PyData.canLay0]
    exact rdDs_lay rs
  rw [c, decide_eq_true b]
  rfl
theorem rdDs_eqv (rs : List FL.Rd) : (!PyData.eqv (.list (rs.map rdD)) (.list [])) = !rs.isEmpty := by
  cases rs with
  | nil => simp [PyData.eqv, PyData.eqvAll]
  | cons r rs => simp [PyData.eqv, PyData.eqvAll]
section
variable {P : Program} {w : World} {K : PySem.W.Frag} {mg : Str → Option Value} {base : Heap} {A : Ad}

/-! ## has_round -/
def spHas (A : Ad) : Sp := fun vs H Q _ => ∃ (a lp fd : Addr) (g : Abs) (k : Nat), vs = [.ref a, .int (k : Int)] ∧ WF g ∧ LnD A H a lp fd g ∧ 0 < k ∧ k ≤ 6 ∧
  ∀ H', LnD A H' a lp fd g → SameX fd H H' → Q (.bl (g.has k)) H'
theorem sc_has_round : FnScope ["line", "k"] ["line", "k"] (defScope s_has_round) := ⟨rfl, rfl, rfl, by decide +kernel, rfl, by decide +kernel, by decide +kernel⟩
theorem room_64 {k : Nat} {B : Around} (r : Room k B) : B.units + 64 < cLine := by have := r.un; omega
theorem ok_has_round (T : Txt K mg A) : FnOk P w K mg base CX0 7 A.has_round.a A.has_round.d ["line", "k"] (spHas A) := by
  refine T.has_round.fn.ok sc_has_round (fun vs H Q E h => ?_) (fun cdv B outer s H vs Q E hr h => ?_)
  · obtain ⟨a, lp, fd, g, k, rfl, _⟩ := h
    rfl
  · obtain ⟨a, lp, fd, g, k, rfl, wf, lnd, k0, k6, kk⟩ := h
    refine ⟨_, pss_one (ps_ret (pe_or (pe_call (ok_is_endless T) (hr.mono (by decide)) (by rfl) T.is_endless.mg T.is_endless.fn.kp T.is_endless.b .nil pass0 (pa_cons (pv 0) (pa_cons (pv 1) pa_nil)))
      (pe_one (pe_cmpR (op_neD (room_64 hr)) (pe_call (ok_all_rounds T) hr (by rfl) T.all_rounds.mg T.all_rounds.fn.kp T.all_rounds.b .nil pass0 (pa_cons (pv 0) (pa_cons (pv 1) pa_nil))) (pe_lst pa_nil) (nomark _))))), ?_⟩
    refine ⟨_, rfl, _, rfl, a, lp, fd, g, k, rfl, wf, lnd.ln, fun H1 s1 => ⟨_, rfl, ?_⟩⟩
    cases e : FL.endl g k with
    | true =>
      refine iteT ?_
      have q := kk H1 (lnd.same s1) (SameX.of s1)
      rw [FL.has_endl wf k0 e] at q
      exact q
    | false =>
      refine iteF ?_
      refine ⟨_, rfl, _, rfl, a, lp, fd, g, k, rfl, wf, lnd.same s1, k0, k6, e, fun v H2 l2 s2 c => ?_⟩
      obtain ⟨r, rs, ys, rfl, h1, h2, perm, ord⟩ := c
      refine ⟨line_le (Nat.zero_le _), fun p hp => ?_⟩
      have s3 := same_new (o := .lst []) hp
      refine ⟨.list (ys.map rdD), .list [], .lst (SqL.of (s3 _ _ h1)) (rdD_dps (Rds.same s3 h2)), .lst (SqL.of upd_same) .nil, rdDs_shaped _, by decide, ?_⟩
      rw [rdDs_eqv]
      have q := kk _ (l2.same s3) (((SameX.of s1).trans s2).trans (SameX.of s3))
      rw [FL.has_eq wf k0 e] at q
      have eq : ys.isEmpty = (FL.someR g k).isEmpty := by
        have := perm.length_eq
        cases ys <;> cases h : FL.someR g k <;> simp_all
      rw [eq]
      exact q

/-! ## errors -/
/-- a refusal by a number -/
def Rz (A : Ad) (E : XK) (r : Int) (H : Hp) : Prop := ∀ dd H', Same H H' → H' dd = some (.xd [("refusal", .int r)]) → E (.ref A.cR) (some dd) H'
def spRInit (A : Ad) : Sp := fun vs H Q _ => ∃ (a : Addr) (r : Int), vs = [.ref a, .int r] ∧ H a = some (exo a A.cR none) ∧
  ∀ dx, H dx = none → dx ≠ a → Q .non (upd (upd H dx (exd dx [("refusal", .int r)])) a (exo a A.cR (some dx)))
theorem sc_r_init : FnScope ["self", "refusal"] ["self", "refusal"] (defScope s_r_init) := ⟨rfl, rfl, rfl, by decide +kernel, rfl, by decide +kernel, by decide +kernel⟩
theorem ok_r_init (T : Txt K mg A) : FnOk P w K mg base CX0 1 A.r_init.a A.r_init.d ["self", "refusal"] (spRInit A) := by
  refine T.fnR.ok sc_r_init (fun vs H Q E h => ?_) (fun cdv B outer s H vs Q E hr h => ?_)
  · obtain ⟨a, r, rfl, _⟩ := h
    rfl
  · obtain ⟨a, r, rfl, ha, kk⟩ := h
    refine ⟨_, pss_cons (ps_expr (pe_veinit (by rfl) T.b_ValueError T.vV (pa_cons (pv 0) (pa_cons pe_str pa_nil)))) (pss_one (ps_ost (pv 0) (pv 1))), ?_⟩
    refine ⟨_, rfl, a, A.cR, _, rfl, by show 1 ≤ 1000; decide, T.oR, ha, ?_⟩
    exact ⟨_, rfl, _, rfl, a, A.cR, rfl, T.oR, T.noR, .inl ⟨ha, fun dx hdx ne => kk dx hdx ne⟩⟩
def spWant (A : Ad) : Sp := fun vs H Q E => ∃ (b : Bool) (r : Int), vs = [.bl b, .int r] ∧ (b = true → Q .non H) ∧ (b = false → Rz A E r H)
theorem sc_want : FnScope ["is_so", "refusal"] ["is_so", "refusal"] (defScope s_want) := ⟨rfl, rfl, rfl, by decide +kernel, rfl, by decide +kernel, by decide +kernel⟩
theorem ok_want (T : Txt K mg A) : FnOk P w K mg base (L2.CX P w) 3 A.want.a A.want.d ["is_so", "refusal"] (spWant A) := by
  refine T.want.fn.okX sc_want (fun vs H Q E h => ?_) (fun cdv B outer s H vs Q E hr h => ?_)
  · obtain ⟨b, r, rfl, _⟩ := h
    rfl
  · obtain ⟨b, r, rfl, kT, kF⟩ := h
    refine ⟨_, pss_one (ps_if (pt_not (pt_val (pv 0))) (pss_one (ps_raise rfl (takes_of rfl rfl rfl rfl) (pmk_oex T.oR T.iR T.tR (ok_r_init T) hr T.bR .nil pass0 (by rfl) T.gR (pa_cons (pv 1) pa_nil)))) pss_nil), ?_⟩
    refine ⟨_, rfl, _, rfl, ?_⟩
    cases b with
    | true => exact iteF (kT rfl)
    | false =>
      refine iteT ?_
      refine ⟨_, rfl, by show 1 ≤ 1000; decide, fun a ha => ?_⟩
      refine ⟨a, r, rfl, upd_same, fun dx hdx ne => ⟨rfl, dx, [("refusal", .int r)], upd_same, ?_, ?_, ?_⟩⟩
      · rw [upd_ne ne, upd_same]
      · rw [upd_ne ne] at hdx
        exact hdx
      · refine kF rfl dx _ (fun b o e => ?_) upd_same
        have hdx0 : H dx = none := by
          rw [upd_ne ne] at hdx
          exact hdx
        have nba : b ≠ a := ne_of_none e ha
        have nbd : b ≠ dx := ne_of_none e hdx0
        rw [upd_ne nbd, del_ne nba, upd_ne nba, upd_ne nbd, upd_ne nba]
        exact e
def spWantSteps (A : Ad) : Sp := fun vs H Q E => ∃ (k : Nat), vs = [.int (k : Int)] ∧ (Su183.okSteps k = true → Q .non H) ∧ (Su183.okSteps k = false → Rz A E (-22) H)
theorem sc_want_steps : FnScope ["k"] ["k"] (defScope s_want_steps) := ⟨rfl, rfl, rfl, by decide +kernel, rfl, by decide +kernel, by decide +kernel⟩
theorem okSteps_int (k : Nat) : Su183.okSteps k = (decide ((1 : Int) ≤ (k : Int)) && decide ((k : Int) ≤ 6)) := by
  unfold Su183.okSteps Su183.STEPS
  congr 1
  · apply decide_eq_decide.mpr
    omega
  · apply decide_eq_decide.mpr
    omega
theorem ok_want_steps (T : Txt K mg A) : FnOk P w K mg base (L2.CX P w) 4 A.want_steps.a A.want_steps.d ["k"] (spWantSteps A) := by
  refine T.want_steps.fn.okX sc_want_steps (fun vs H Q E h => ?_) (fun cdv B outer s H vs Q E hr h => ?_)
  · obtain ⟨k, rfl, _⟩ := h
    rfl
  · obtain ⟨k, rfl, kT, kF⟩ := h
    obtain ⟨t1, c1⟩ := T.c_MOST_STEPS
    obtain ⟨t2, c2⟩ := T.c_NOT_AS_TOLD
    refine ⟨_, pss_one (ps_expr (pe_call (ok_want T) hr (by rfl) T.want.mg T.want.fn.kp T.want.b .nil (passes_call (takes_of rfl rfl rfl rfl) fun _ _ _ _ h => h) (pa_cons (pe_chain op_le op_le pe_int (pv 0) (pe_glob (v := .int 6) (by rfl) c1 ⟨_, rfl⟩)) (pa_cons (pe_glob (v := .int (-22)) (by rfl) c2 ⟨_, rfl⟩) pa_nil)))), ?_⟩
    rw [okSteps_int] at kT kF
    refine ⟨_, rfl, _, _, rfl, rfl, _, rfl, ?_⟩
    refine ite2 (fun c => ?_) (fun c => ?_)
    · refine ⟨_, _, rfl, rfl, _, _, rfl, fun z => kT ?_, fun z => kF ?_⟩
      · rw [show decide ((1 : Int) ≤ (k : Int)) = true from c, Bool.true_and]
        exact z
      · rw [show decide ((1 : Int) ≤ (k : Int)) = true from c, Bool.true_and]
        exact z
    · refine ⟨_, _, rfl, fun z => absurd z Bool.false_ne_true, fun _ => kF ?_⟩
      have c' : decide ((1 : Int) ≤ (k : Int)) = false := by simpa using c
      rw [c', Bool.false_and]
end
end FW

namespace FW
open PySem PySem.Spec PyProof.Rows L2
open Su183 (Abs Frac)
open FL (WF Pl)
def scRanks : Scope := { kind := ScopeKind.function, names := [(Str.ofString ".0", NameKind.local), (Str.ofString "place", NameKind.cell), (Str.ofString "len", NameKind.globalImplicit), (Str.ofString "places", NameKind.cell)], isGenerator := false, isCoroutine := false }
theorem intV_get {l : List Int} {i : Nat} {v : V} (h : (intV l)[i]? = some v) : ∃ z, l[i]? = some z ∧ v = .int z := by
  unfold intV at h
  rw [List.getElem?_map] at h
  cases e : l[i]? with
  | none => rw [e] at h; cases h
  | some z =>
    rw [e] at h
    exact ⟨z, rfl, (Option.some.inj h).symm⟩
/-! ## The desk in the heap -/
def DkF (v : V) : List (Str × V) := [("own", v)]
theorem DkF_own (v : V) : (DkF v).lookup ("own" : Str) = some v := lk_here
theorem DkF_no (v : V) {m : Str} (h : (m == ("own" : Str)) = false) : (DkF v).lookup m = none := (lk_past h).trans rfl
theorem DkF_put (v u : V) : putF "own" u (DkF v) = DkF u := if_pos rfl
/-- a line that is there, at a -/
structure DkL (A : Ad) (H : Hp) (d dx a lp fd : Addr) (g : Abs) : Prop where
  ins : H d = some (.ins A.cD dx (DkF (.ref a)))
  wf : WF g
  lnd : LnD A H a lp fd g
def Dk (A : Ad) (H : Hp) (d : Addr) : Option Abs → Prop
  | none => ∃ dx, H d = some (.ins A.cD dx (DkF .non))
  | some g => ∃ dx a lp fd, DkL A H d dx a lp fd g
theorem DkL.same {A : Ad} {H H' : Hp} {d dx a lp fd : Addr} {g : Abs} (h : DkL A H d dx a lp fd g) (s : Same H H') : DkL A H' d dx a lp fd g := ⟨s _ _ h.ins, h.wf, h.lnd.same s⟩
theorem Dk.same {A : Ad} {H H' : Hp} {d : Addr} (s : Same H H') : ∀ {o : Option Abs}, Dk A H d o → Dk A H' d o
  | none, ⟨dx, h⟩ => ⟨dx, s _ _ h⟩
  | some _, ⟨dx, a, lp, fd, h⟩ => ⟨dx, a, lp, fd, h.same s⟩
theorem SameLT.trans {H H1 H2 : Hp} (a : SameLT H H1) (b : SameLT H1 H2) : SameLT H H2 := fun c o e t => b c o (a c o e t) t
/-- behind a search of rounds: what was found is written, else all stays -/
theorem DkL.cut {A : Ad} {H H' : Hp} {d dx a lp fd : Addr} {g : Abs} (h : DkL A H d dx a lp fd g) (l : LnD A H' a lp fd g) (s : SameX fd H H') : DkL A H' d dx a lp fd g ∧ SameLT H H' := by
  obtain ⟨_, kvs, hk, _⟩ := h.lnd
  have nd : d ≠ fd := ne_of h.ins hk (by intro z; cases z)
  refine ⟨⟨s _ _ h.ins nd, h.wf, l⟩, fun b o e c => s b o e ?_⟩
  rintro rfl
  rw [hk] at e
  cases e
  rcases c with ⟨_, c⟩ | ⟨_, c⟩ | ⟨_, _, c⟩ <;> cases c
/-- what is wanted of an answer, of a refusal -/
def Rets (A : Ad) (d : Addr) (H : Hp) (s : Option Abs) (out : List Int) (Q : VK) : Prop := ∀ p H', SameLT H H' → Dk A H' d s → H p = none → H' p = some (.lst (intV out)) → Q (.ref p) H'
def Rais (A : Ad) (d : Addr) (H : Hp) (s : Option Abs) (r : Int) (E : XK) : Prop := ∀ dd H', SameLT H H' → Dk A H' d s → H' dd = some (.xd [("refusal", .int r)]) → E (.ref A.cR) (some dd) H'
theorem Rais.rz {A : Ad} {d : Addr} {H H1 : Hp} {s : Option Abs} {r : Int} {E : XK} (h : Rais A d H s r E) (l : SameLT H H1) (k : Dk A H1 d s) : Rz A E r H1 := fun dd H' s1 e => h dd H' (l.trans (.of s1)) (k.same s1) e
/-- what the document's answer asks of a call on a line -/
def Goes (A : Ad) (d : Addr) (H : Hp) (g : Abs) (c : Su183.Call) (Q : VK) (E : XK) : Prop :=
  ((Su183.does g c).2.value < 0 → Rais A d H (some g) (Su183.does g c).2.value E) ∧
  (0 ≤ (Su183.does g c).2.value → Rets A d H (some (Su183.does g c).1) ((Su183.does g c).2.value :: (Su183.does g c).2.out) Q)
theorem Goes.no {A : Ad} {d : Addr} {H : Hp} {g : Abs} {c : Su183.Call} {Q : VK} {E : XK} {v : Int} (h : Goes A d H g c Q E) (e : Su183.does g c = (g, Su183.no v)) (hv : v < 0) : Rais A d H (some g) v E := by
  have := h.1
  rw [e] at this
  exact this hv
theorem Goes.yes {A : Ad} {d : Addr} {H : Hp} {g g' : Abs} {c : Su183.Call} {Q : VK} {E : XK} {n : Nat} {l : List Int} (h : Goes A d H g c Q E) (e : Su183.does g c = (g', Su183.num n l)) : Rets A d H (some g') ((n : Int) :: l) Q := by
  have := h.2
  rw [e] at this
  exact this (Int.natCast_nonneg n)
theorem not_lst {A : Ad} {H : Hp} {d dx : Addr} {v : V} (h : H d = some (.ins A.cD dx (DkF v))) {o : HO} : SameLT H (L2.upd H d o) := fun b u e c => by
  have nb : b ≠ d := by
    rintro rfl
    rw [h] at e
    cases e
    rcases c with ⟨_, c⟩ | ⟨_, c⟩ | ⟨_, _, c⟩ <;> cases c
  rw [upd_ne nb]
  exact e
/-- a new line is put in the old one's place -/
theorem Dk.store {A : Ad} {H H1 : Hp} {d dx x lp fd : Addr} {v : V} {g : Abs} (h : H1 d = some (.ins A.cD dx (DkF v))) (wf : WF g) (l : LnD A H1 x lp fd g) (s : SameLT H H1) :
    Dk A (L2.upd H1 d (.ins A.cD dx (putF "own" (.ref x) (DkF v)))) d (some g) ∧ SameLT H (L2.upd H1 d (.ins A.cD dx (putF "own" (.ref x) (DkF v)))) := by
  have lt := not_lst (o := .ins A.cD dx (putF "own" (.ref x) (DkF v))) h
  rw [DkF_put] at lt ⊢
  obtain ⟨⟨⟨dxl, hi⟩, hp⟩, kvs, hk, fo⟩ := l
  have nk : fd ≠ d := ne_of hk h (by intro z; cases z)
  have np : lp ≠ d := ne_of hp h (by intro z; cases z)
  refine ⟨?_, s.trans lt⟩
  by_cases nx : x = d
  · exfalso
    subst nx
    rw [h] at hi
    injection hi with hi
    injection hi with _ _ hi
    have q : (DkF v).length = (lnF lp fd).length := congrArg List.length hi
    have q2 : (1 : Nat) = 2 := q
    exact absurd q2 (by decide)
  · exact ⟨dx, x, lp, fd, upd_same, wf, ⟨⟨⟨dxl, by rw [upd_ne nx]; exact hi⟩, by rw [upd_ne np]; exact hp⟩, kvs, by rw [upd_ne nk]; exact hk, fo.lt lt⟩⟩
section
variable {P : Program} {w : World} {K : PySem.W.Frag} {mg : Str → Option Value} {base : Heap} {A : Ad}

/-! ## ranks_of -/
def ranksL (l : List Int) : List Int := l.map fun a => (((l.filter fun b => decide (b < a)).length : Nat) : Int)
def spRanks : Sp := fun vs H Q _ => ∃ (lp : Addr) (l : List Int), vs = [.ref lp] ∧ H lp = some (.lst (intV l)) ∧ l.length ≤ 100 ∧ ∀ p H', Same H H' → H p = none → H' p = some (.lst (intV (ranksL l))) → Q (.ref p) H'
theorem sc_ranks_of : FnScope ["places", "place", "other"] ["places"] (defScope s_ranks_of) := ⟨rfl, rfl, rfl, by decide +kernel, rfl, by decide +kernel, by decide +kernel⟩
theorem ok_ranks_of (T : Txt K mg A) : FnOk P w K mg base CX0 1 A.ranks_of.a A.ranks_of.d ["places"] spRanks := by
  refine T.ranks_of.fn.ok sc_ranks_of (fun vs H Q E h => ?_) (fun cdv B outer s H vs Q E hr h => ?_)
  · obtain ⟨lp, l, rfl, _⟩ := h
    rfl
  · obtain ⟨lp, l, rfl, hl, hlen, kk⟩ := h
    refine ⟨_, pss_one (ps_ret (pe_lc (own := [("place", 1)]) (g := gName 1) (tt := tYes) rfl sc_ranks_of.nd (pi_list (pv 0))
      (blkOk_by (own := [("place", 1)]) (N := ["places", "place", "other"]) (sc := defScope s_ranks_of) (by decide +kernel))
      (fun _ _ _ _ _ => pg_name (i := 1) sc_ranks_of.nd rfl (Or.inr rfl)) (fun _ _ _ _ _ => pts_nil)
      (fun _ _ _ _ _ => pe_callB (call_len_seqK (K := K) rfl) (by rfl) T.b_len PySem.boot_len (pa_cons
        (pe_lc (own := [("other", 2)]) (g := gName 2) rfl sc_ranks_of.nd (pi_listK (K := K) rfl (pv 0))
          (blkOk_by (own := [("other", 2)]) (N := ["places", "place", "other"]) (sc := scRanks) (by decide +kernel))
          (fun _ _ _ _ _ => pg_name (i := 2) sc_ranks_of.nd rfl (Or.inl rfl)) (fun _ _ _ _ _ => pts_one (pt_cmpR op_lt (pv 2) (pv 1) (nomark _))) (fun _ _ _ _ _ => pv 2)) pa_nil)))), ?_⟩
    refine ⟨_, rfl, lp, rfl, ⟨_, SqL.of hl⟩, fun D hD => ?_⟩
    refine lc_list (K := K) (a := lp) (xs := intV l) (fun i H' => Same H H' ∧ H' D = some (.lst (intV ((l.take i).map fun a => (((l.filter fun b => decide (b < a)).length : Nat) : Int)))))
      ⟨same_new hD, upd_same⟩ (fun i H' _ q => SqL.of (q.1 _ _ hl)) ?_ ?_
    · rintro i y H' hy ⟨s1, h1⟩
      obtain ⟨z, ez, rfl⟩ := intV_get hy
      have hi : i < l.length := (List.getElem?_eq_some_iff.mp ez).1
      refine ⟨rfl, ?_⟩
      refine ⟨_, rfl, lp, rfl, ⟨_, SqL.of (s1 _ _ hl)⟩, fun C hC => ?_⟩
      refine lc_list (K := K) (a := lp) (xs := intV l) (fun j H2 => Same H' H2 ∧ H2 C = some (.lst (intV ((l.take j).filter fun b => decide (b < z)))))
        ⟨same_new hC, upd_same⟩ (fun j H2 _ q => SqL.of (q.1 _ _ (s1 _ _ hl))) ?_ ?_
      · rintro j y H2 hy ⟨s2, h2⟩
        obtain ⟨u, eu, rfl⟩ := intV_get hy
        have lf := List.length_filter_le (fun b => decide (b < z)) (l.take j)
        rw [List.length_take] at lf
        refine ⟨rfl, ?_⟩
        refine ⟨_, rfl, _, rfl, _, _, rfl, rfl, _, rfl, ?_⟩
        rw [filter_take_succ eu]
        refine ite2 (fun d => ?_) (fun d => ?_)
        · have d1 : decide (u < z) = true := d
          refine ⟨_, rfl, _, h2, line_lt (by rw [intV_len]; omega), same_upd s2 hC, ?_⟩
          rw [upd_same, if_pos d1, intV_append]
          rfl
        · have d1 : ¬ decide (u < z) = true := d
          rw [if_neg d1, List.append_nil]
          exact ⟨s2, h2⟩
      · rintro H2 ⟨s2, h2⟩
        rw [intV_len, List.take_length] at h2
        refine ⟨C, _, rfl, .inl (SqL.of h2), _, s2 _ _ h1, line_lt (by rw [intV_len, List.length_map, List.length_take]; omega), same_upd (s1.trans s2) hD, ?_⟩
        rw [upd_same, List.take_add_one, ez, List.map_append, intV_append, intV_len]
        rfl
    · rintro H' ⟨s1, h1⟩
      rw [intV_len, List.take_length] at h1
      exact kk D H' s1 hD h1

/-! ## do_brings -/
def spDoBrings (A : Ad) : Sp := fun vs H Q E => ∃ (k l : Nat), vs = [.int (k : Int), .int (l : Int)] ∧ ((k = 0 ∨ l = 0 ∨ 1000 < k ∨ 1000 < l) → Rz A E (-22) H) ∧
  (¬ (k = 0 ∨ l = 0 ∨ 1000 < k ∨ 1000 < l) → ∀ p H', Same H H' → H p = none → H' p = some (.lst (intV [((Su183.bit (Su183.brings k l) : Nat) : Int)])) → Q (.ref p) H')
theorem sc_do_brings : FnScope ["k", "l"] ["k", "l"] (defScope s_do_brings) := ⟨rfl, rfl, rfl, by decide +kernel, rfl, by decide +kernel, by decide +kernel⟩
theorem bit_int (b : Bool) : (if b = true then (1 : Int) else 0) = ((Su183.bit b : Nat) : Int) := by cases b <;> rfl
theorem ok_do_brings (T : Txt K mg A) : FnOk P w K mg base (L2.CX P w) 4 A.do_brings.a A.do_brings.d ["k", "l"] (spDoBrings A) := by
  refine T.do_brings.fn.okX sc_do_brings (fun vs H Q E h => ?_) (fun cdv B outer s H vs Q E hr h => ?_)
  · obtain ⟨k, l, rfl, _⟩ := h
    rfl
  · obtain ⟨k, l, rfl, kN, kS⟩ := h
    obtain ⟨t1, c1⟩ := T.c_MOST_BROUGHT
    obtain ⟨t2, c2⟩ := T.c_NOT_AS_TOLD
    refine ⟨_, pss_cons (ps_expr (pe_call (ok_want T) hr (by rfl) T.want.mg T.want.fn.kp T.want.b .nil (passes_call (takes_of rfl rfl rfl rfl) fun _ _ _ _ h => h)
        (pa_cons (pe_and (pe_chain op_le op_le pe_int (pv 0) (pe_glob (v := .int 1000) (by rfl) c1 ⟨_, rfl⟩)) (pe_one (pe_chain op_le op_le pe_int (pv 1) (pe_glob (v := .int 1000) (by rfl) c1 ⟨_, rfl⟩)))) (pa_cons (pe_glob (v := .int (-22)) (by rfl) c2 ⟨_, rfl⟩) pa_nil))))
      (pss_one (ps_ret (pe_lst (pa_cons (pe_callTy call_int1 (by rfl) T.b_int (by decide +kernel) (pa_cons (pe_call (ok_brings T) (hr.mono (by decide)) (by rfl) T.brings.mg T.brings.fn.kp T.brings.b .nil pass0 (pa_cons (pv 0) (pa_cons (pv 1) pa_nil))) pa_nil)) pa_nil)))), ?_⟩
    refine ⟨_, rfl, _, _, rfl, rfl, _, rfl, ?_⟩
    refine ite2 (fun a1 => ?_) (fun a1 => ?_)
    · have a1' : (1 : Int) ≤ (k : Int) := of_decide_eq_true a1
      refine ⟨_, _, rfl, rfl, _, rfl, ?_⟩
      refine ite2 (fun a2 => ?_) (fun a2 => ?_)
      · have a2' : (k : Int) ≤ 1000 := of_decide_eq_true a2
        refine ⟨_, rfl, _, _, rfl, rfl, _, rfl, ?_⟩
        refine ite2 (fun a3 => ?_) (fun a3 => ?_)
        · have a3' : (1 : Int) ≤ (l : Int) := of_decide_eq_true a3
          refine ⟨_, _, rfl, rfl, _, _, rfl, fun z => ?_, fun z => kN ?_⟩
          · have z' : (l : Int) ≤ 1000 := of_decide_eq_true z
            refine ⟨_, rfl, _, rfl, k, l, rfl, by omega, by omega, by omega, by omega, fun H1 s1 => .inr ⟨_, rfl, ?_⟩⟩
            refine ⟨line_le (by show 1 ≤ 16777216; decide), fun p hp => ?_⟩
            refine kS (by omega) p _ (s1.trans (same_new hp)) (s1.free hp) ?_
            rw [upd_same, bit_int]
            rfl
          · have z' : ¬ (l : Int) ≤ 1000 := of_decide_eq_false z
            omega
        · have a3' : ¬ (1 : Int) ≤ (l : Int) := fun z => a3 (decide_eq_true z)
          exact ⟨_, _, rfl, fun z => absurd z Bool.false_ne_true, fun _ => kN (by omega)⟩
      · have a2' : ¬ (k : Int) ≤ 1000 := fun z => a2 (decide_eq_true z)
        exact ⟨_, _, rfl, fun z => absurd z Bool.false_ne_true, fun _ => kN (by omega)⟩
    · have a1' : ¬ (1 : Int) ≤ (k : Int) := fun z => a1 (decide_eq_true z)
      refine ⟨_, rfl, ?_⟩
      refine iteF ?_
      exact ⟨_, _, rfl, fun z => absurd z Bool.false_ne_true, fun _ => kN (by omega)⟩

/-! ## Desk: __init__, line -/
def spDInit (A : Ad) : Sp := fun vs H Q _ => ∃ (d dx : Addr), vs = [.ref d] ∧ H d = some (.ins A.cD dx []) ∧ Q .non (L2.upd H d (.ins A.cD dx (DkF .non)))
theorem sc_d_init : FnScope ["self"] ["self"] (defScope s_d_init) := ⟨rfl, rfl, rfl, by decide +kernel, rfl, by decide +kernel, by decide +kernel⟩
theorem ok_d_init (T : Txt K mg A) : FnOk P w K mg base CX0 1 A.d_init.a A.d_init.d ["self"] (spDInit A) := by
  refine T.d_init.fn.ok sc_d_init (fun vs H Q E h => ?_) (fun cdv B outer s H vs Q E hr h => ?_)
  · obtain ⟨d, dx, rfl, _⟩ := h
    rfl
  · obtain ⟨d, dx, rfl, hd, kk⟩ := h
    refine ⟨_, pss_one (ps_fld (pv 0) pe_non rfl), ?_⟩
    exact ⟨_, rfl, d, _, dx, [], rfl, hd, T.clD, T.nOwn, (by show 0 < 1000; decide), kk⟩
def spDLine (A : Ad) : Sp := fun vs H Q E => ∃ (d : Addr) (s : Option Abs), vs = [.ref d] ∧ Dk A H d s ∧ (s = none → Rz A E (-11) H) ∧ (∀ dx a lp fd g, s = some g → DkL A H d dx a lp fd g → Q (.ref a) H)
theorem sc_d_line : FnScope ["self"] ["self"] (defScope s_d_line) := ⟨rfl, rfl, rfl, by decide +kernel, rfl, by decide +kernel, by decide +kernel⟩
theorem ok_d_line (T : Txt K mg A) : FnOk P w K mg base (L2.CX P w) 4 A.d_line.a A.d_line.d ["self"] (spDLine A) := by
  refine T.d_line.fn.okX sc_d_line (fun vs H Q E h => ?_) (fun cdv B outer s H vs Q E hr h => ?_)
  · obtain ⟨d, s, rfl, _⟩ := h
    rfl
  · obtain ⟨d, s, rfl, hd, kN, kS⟩ := h
    obtain ⟨t2, c2⟩ := T.c_NOT_BEGUN
    refine ⟨_, pss_cons (ps_expr (pe_call (ok_want T) hr (by rfl) T.want.mg T.want.fn.kp T.want.b .nil (passes_call (takes_of rfl rfl rfl rfl) fun _ _ _ _ h => h)
        (pa_cons (pe_cmpR op_notN (pe_fld (pv 0) rfl) pe_non (nomark _)) (pa_cons (pe_glob (v := .int (-11)) (by rfl) c2 ⟨_, rfl⟩) pa_nil))))
      (pss_one (ps_ret (pe_fld (pv 0) rfl))), ?_⟩
    cases s with
    | none =>
      obtain ⟨dx, hi⟩ := hd
      refine ⟨_, rfl, d, _, dx, _, _, rfl, hi, T.clD, T.nOwn, DkF_own _, rfl, _, _, rfl, fun z => absurd z (by decide), fun _ => kN rfl⟩
    | some g =>
      obtain ⟨dx, a, lp, fd, l⟩ := hd
      have q : (!decide (V.ref a = V.non)) = true := by rw [decide_eq_false (fun z => nomatch z)]; rfl
      refine ⟨_, rfl, d, _, dx, _, _, rfl, l.ins, T.clD, T.nOwn, DkF_own _, rfl, _, _, rfl, fun _ => ?_, fun z => absurd (q.symm.trans z) (by decide)⟩
      exact ⟨_, rfl, d, _, dx, _, _, rfl, l.ins, T.clD, T.nOwn, DkF_own _, kS dx a lp fd g rfl l⟩
end
end FW

namespace FW
open PySem PySem.Spec PyProof.Rows L2
open Su183 (Abs Frac)
open FL (WF Pl)
theorem Dk.ins {A : Ad} {H : Hp} {d : Addr} : ∀ {s : Option Abs}, Dk A H d s → ∃ dx v, H d = some (.ins A.cD dx (DkF v))
  | none, ⟨dx, h⟩ => ⟨dx, _, h⟩
  | some _, ⟨dx, _, _, _, h⟩ => ⟨dx, _, h.ins⟩
theorem free_upd {H H1 : Hp} {d p : Addr} {o : HO} (s : Same H H1) (h : L2.upd H1 d o p = none) : H p = none := by
  by_cases e : p = d
  · subst e
    rw [upd_same] at h
    cases h
  · rw [upd_ne e] at h
    exact s.free h
theorem DkL.ne {A : Ad} {H : Hp} {d dx a lp fd : Addr} {g : Abs} (l : DkL A H d dx a lp fd g) : a ≠ d := by
  intro e
  obtain ⟨dxl, h⟩ := l.lnd.ln.ins
  rw [e, l.ins] at h
  injection h with h
  injection h with _ _ h
  have q : (DkF (.ref a)).length = (lnF lp fd).length := congrArg List.length h
  have q2 : (1 : Nat) = 2 := q
  exact absurd q2 (by decide)
theorem DkL.some {A : Ad} {H : Hp} {d dx a lp fd : Addr} {g : Abs} (l : DkL A H d dx a lp fd g) : Dk A H d (some g) := ⟨dx, a, lp, fd, l⟩
theorem Ln.over {A : Ad} {H : Hp} {d dx a lp fd : Addr} {g : Abs} {v : V} {o : HO} (ln : Ln A H a lp fd g) (h : H d = some (.ins A.cD dx (DkF v))) (ne : a ≠ d) : Ln A (L2.upd H d o) a lp fd g := by
  obtain ⟨⟨dxl, h1⟩, h2⟩ := ln
  exact ⟨⟨dxl, by rw [upd_ne ne]; exact h1⟩, by rw [upd_ne (ne_of h2 h (by intro z; cases z))]; exact h2⟩
section
variable {P : Program} {w : World} {K : PySem.W.Frag} {mg : Str → Option Value} {base : Heap} {A : Ad}

/-! ## begin -/
def spDBegin (A : Ad) : Sp := fun vs H Q E => ∃ (d : Addr) (s : Option Abs) (n : Nat), vs = [.ref d, .int (n : Int)] ∧ Dk A H d s ∧ ((n = 0 ∨ 6 < n) → Rais A d H s (-22) E) ∧ (¬ (n = 0 ∨ 6 < n) → Rets A d H (some (Su183.new n)) [0] Q)
theorem sc_d_begin : FnScope ["self", "n"] ["self", "n"] (defScope s_d_begin) := ⟨rfl, rfl, rfl, by decide +kernel, rfl, by decide +kernel, by decide +kernel⟩
theorem rgV_new (n : Nat) : rgV 0 ((n : Int) + 1) = ptsV (Su183.new n).to := by
  unfold rgV ptsV
  show _ = (List.range (n + 1)).map _
  have e : ((n : Int) + 1 - 0).toNat = n + 1 := by omega
  rw [e]
  apply List.map_congr_left
  intro i _
  show V.int (0 + (i : Int)) = V.int (i : Int)
  rw [Int.zero_add]
theorem ok_d_begin (T : Txt K mg A) : FnOk P w K mg base (L2.CX P w) 4 A.d_begin.a A.d_begin.d ["self", "n"] (spDBegin A) := by
  refine T.d_begin.fn.okX sc_d_begin (fun vs H Q E h => ?_) (fun cdv B outer s H vs Q E hr h => ?_)
  · obtain ⟨d, s, n, rfl, _⟩ := h
    rfl
  · obtain ⟨d, s, n, rfl, dk, kN, kS⟩ := h
    obtain ⟨t1, c1⟩ := T.c_MOST_PIECES
    obtain ⟨t2, c2⟩ := T.c_NOT_AS_TOLD
    refine ⟨_, pss_cons (ps_expr (pe_call (ok_want T) hr (by rfl) T.want.mg T.want.fn.kp T.want.b .nil (passes_call (takes_of rfl rfl rfl rfl) fun _ _ _ _ h => h)
        (pa_cons (pe_chain op_le op_le pe_int (pv 1) (pe_glob (v := .int 6) (by rfl) c1 ⟨_, rfl⟩)) (pa_cons (pe_glob (v := .int (-22)) (by rfl) c2 ⟨_, rfl⟩) pa_nil))))
      (pss_cons (ps_fld (pv 0) (pe_make T.mkL (ok_l_init T) (hr.mono (by decide)) (by rfl) T.gL T.l_init.b .nil pass0 (pa_cons (pe_listRg rfl (by rfl) T.b_list (prg_1 (by rfl) T.b_range (pe_op op_add (pv 1) pe_int))) pa_nil)) rfl)
      (pss_one (ps_ret (pe_lst (pa_cons pe_int pa_nil))))), ?_⟩
    refine ⟨_, rfl, _, _, rfl, rfl, _, rfl, ?_⟩
    refine ite2 (fun a1 => ?_) (fun a1 => ?_)
    · have a1' : (1 : Int) ≤ (n : Int) := of_decide_eq_true a1
      refine ⟨_, _, rfl, rfl, _, _, rfl, fun z => ?_, fun z => ?_⟩
      · have z' : (n : Int) ≤ 6 := of_decide_eq_true z
        have kS := kS (by omega)
        have wf := FL.new_wf (n := n) (by omega) (by omega)
        refine ⟨_, rfl, _, _, rfl, rfl, _, rfl, RgOk.of_le (by omega) (by omega) (by omega) (by omega), fun lp hlp => ?_⟩
        intro x dxl nx ndx nex
        refine ⟨x, dxl, lp, rfl, upd_same, fun fd H1 kp hfd h1 h2 => ⟨rfl, ?_⟩⟩
        rw [rgV_new] at nx ndx kp
        obtain ⟨s1, l1⟩ := ln_made (g := Su183.new n) nx ndx upd_same kp h1
        have s01 := (same_new hlp).trans s1
        obtain ⟨dx, v, hd⟩ := dk.ins
        have hd1 := s01 _ _ hd
        refine ⟨_, rfl, d, _, dx, _, rfl, hd1, T.clD, T.nOwn, (by show 1 < 1000; decide), ?_⟩
        obtain ⟨dk2, lt2⟩ := Dk.store hd1 wf (LnD.new l1 h2) (.of s01)
        refine ⟨line_le (by show 1 ≤ 16777216; decide), fun p hp => ?_⟩
        exact kS p _ (lt2.trans (.of (same_new hp))) (dk2.same (same_new hp)) (free_upd s01 hp) upd_same
      · have z' : ¬ (n : Int) ≤ 6 := of_decide_eq_false z
        exact (kN (by omega)).rz (.of (Same.refl _)) dk
    · have a1' : ¬ (1 : Int) ≤ (n : Int) := fun z => a1 (decide_eq_true z)
      exact ⟨_, _, rfl, fun z => absurd z Bool.false_ne_true, fun _ => (kN (by omega)).rz (.of (Same.refl _)) dk⟩

/-! ## set_point -/
def spDSet (A : Ad) : Sp := fun vs H Q E => ∃ (d : Addr) (g : Abs) (i v : Nat), vs = [.ref d, .int (i : Int), .int (v : Int)] ∧ Dk A H d (some g) ∧ Goes A d H g (.set i v) Q E
theorem sc_d_set_point : FnScope ["self", "i", "v", "line"] ["self", "i", "v"] (defScope s_d_set_point) := ⟨rfl, rfl, rfl, by decide +kernel, rfl, by decide +kernel, by decide +kernel⟩
theorem set_parts (l : List Nat) (i v : Nat) (h : i < l.length) : ptsV (l.set i v) = (ptsV l).take i ++ [V.int (v : Int)] ++ (ptsV l).drop (i + 1) := by
  rw [List.set_eq_take_append_cons_drop, if_pos h]
  unfold ptsV
  rw [List.map_append, List.map_cons, List.map_take, List.map_drop, List.append_assoc]
  rfl
theorem ok_d_set_point (T : Txt K mg A) : FnOk P w K mg base (L2.CX P w) 5 A.d_set_point.a A.d_set_point.d ["self", "i", "v"] (spDSet A) := by
  refine T.d_set_point.fn.okX sc_d_set_point (fun vs H Q E h => ?_) (fun cdv B outer s H vs Q E hr h => ?_)
  · obtain ⟨d, g, i, v, rfl, _⟩ := h
    rfl
  · obtain ⟨d, g, i, v, rfl, dk, go⟩ := h
    obtain ⟨t1, c1⟩ := T.c_NO_SUCH
    obtain ⟨t2, c2⟩ := T.c_NOT_AS_TOLD
    refine ⟨_, pss_cons (ps_set (i := 3) sc_d_set_point.nd rfl (.inl rfl) (pe_meth0 (pv 0) T.clD T.d_line.m (ok_d_line T) hr T.d_line.b .nil (passes_call (takes_of rfl rfl rfl rfl) fun _ _ _ _ h => h)))
      (pss_cons (ps_expr (pe_call (ok_want T) (hr.mono (by decide)) (by rfl) T.want.mg T.want.fn.kp T.want.b .nil (passes_call (takes_of rfl rfl rfl rfl) fun _ _ _ _ h => h)
        (pa_cons (pe_cmpR op_le (pv 1) (pe_meth0 (pv 3) T.clL T.l_many.m (ok_l_many T) (hr.mono (by decide)) T.l_many.b .nil pass0) (nomark _)) (pa_cons (pe_glob (v := .int (-2)) (by rfl) c1 ⟨_, rfl⟩) pa_nil))))
      (pss_cons (ps_expr (pe_call (ok_want T) (hr.mono (by decide)) (by rfl) T.want.mg T.want.fn.kp T.want.b .nil (passes_call (takes_of rfl rfl rfl rfl) fun _ _ _ _ h => h)
        (pa_cons (pe_cmpR op_le (pv 2) (pe_meth0 (pv 3) T.clL T.l_many.m (ok_l_many T) (hr.mono (by decide)) T.l_many.b .nil pass0) (nomark _)) (pa_cons (pe_glob (v := .int (-22)) (by rfl) c2 ⟨_, rfl⟩) pa_nil))))
      (pss_cons (ps_fld (pv 0) (pe_make T.mkL (ok_l_init T) (hr.mono (by decide)) (by rfl) T.gL T.l_init.b .nil pass0 (pa_cons
        (pe_op op_cat (pe_op op_cat (pe_slice sl_list (pe_fld (pv 3) rfl) po_none (po_some (pv 1))) (pe_lst (pa_cons (pv 2) pa_nil))) (pe_slice sl_list (pe_fld (pv 3) rfl) (po_some (pe_op op_add (pv 1) pe_int)) po_none)) pa_nil)) rfl)
      (pss_one (ps_ret (pe_lst (pa_cons (pe_ix ix_list (pe_fld (pv 3) rfl) (pv 1) (fun _ _ => rfl)) pa_nil))))))), ?_⟩
    obtain ⟨dx0, a0, lp0, fd0, l0⟩ := id dk
    refine ⟨_, rfl, d, dx0, _, rfl, l0.ins, DkF_no _ (by decide +kernel), d, some g, rfl, dk, (fun z => nomatch z), fun dx a lp fd g' eg l => ?_⟩
    cases eg
    have wf := l.wf
    have ln := l.lnd.ln
    obtain ⟨dxl, hx⟩ := ln.ins
    have h6 := wf.six
    refine ⟨_, rfl, _, rfl, a, dxl, _, rfl, hx, lnF_no _ _ (by decide +kernel) (by decide +kernel), a, lp, fd, g, rfl, wf, ln, _, _, rfl, rfl, _, _, rfl, fun z => ?_, fun z => ?_⟩
    · have z' : (i : Int) ≤ (g.n : Int) := of_decide_eq_true z
      refine ⟨_, rfl, _, rfl, a, dxl, _, rfl, hx, lnF_no _ _ (by decide +kernel) (by decide +kernel), a, lp, fd, g, rfl, wf, ln, _, _, rfl, rfl, _, _, rfl, fun y => ?_, fun y => ?_⟩
      · have y' : (v : Int) ≤ (g.n : Int) := of_decide_eq_true y
        have e : Su183.does g (.set i v) = ({ g with to := g.to.set i v }, Su183.num (g.point i) []) := by
          show (if g.n < i then _ else if g.n < v then _ else _) = _
          rw [if_neg (by omega), if_neg (by omega)]
        have yes := go.yes e
        have wf' := FL.set_wf wf (i := i) (v := v) (by omega)
        have hl : i < g.to.length := by rw [wf.len]; omega
        have hpl := ptsV_length g.to
        -- the points
        refine ⟨_, rfl, a, _, dxl, _, _, rfl, hx, T.clL, T.nPoints, lnF_points _ _, _, rfl, _, rfl, lp, _, rfl, SqL.of ln.pts, fun p1 hp1 => ?_⟩
        have s1 := same_new (o := .lst (cutV (ptsV g.to) none (some (i : Int)))) hp1
        refine ⟨_, rfl, line_le (by show 1 ≤ 16777216; decide), fun p2 hp2 => ?_⟩
        have s2 := s1.trans (same_new (o := .lst [.int (v : Int)]) hp2)
        have n12 : p1 ≠ p2 := ne_of_none upd_same hp2
        have b1 := cutV_length (ptsV g.to) none (some (i : Int))
        refine ⟨p1, p2, _, _, rfl, rfl, by rw [upd_ne n12, upd_same], upd_same, line_le (by show _ + 1 ≤ 16777216; rw [hpl, wf.len] at b1; omega), fun p3 hp3 => ?_⟩
        have s3 := s2.trans (same_new (o := .lst (cutV (ptsV g.to) none (some (i : Int)) ++ [.int (v : Int)])) hp3)
        have l3 := ln.same s3
        obtain ⟨dx3, hx3⟩ := l3.ins
        refine ⟨_, rfl, a, _, dx3, _, _, rfl, hx3, T.clL, T.nPoints, lnF_points _ _, _, rfl, _, _, rfl, rfl, _, rfl, lp, _, rfl, SqL.of l3.pts, fun p4 hp4 => ?_⟩
        have n34 : p3 ≠ p4 := ne_of_none upd_same hp4
        have s4 := s3.trans (same_new (o := .lst (cutV (ptsV g.to) (some ((i : Int) + 1)) none)) hp4)
        have b2 := cutV_length (ptsV g.to) (some ((i : Int) + 1)) none
        refine ⟨p3, p4, _, _, rfl, rfl, by rw [upd_ne n34, upd_same], upd_same, line_le (by rw [List.length_append]; show _ + 1 + _ ≤ 16777216; rw [hpl, wf.len] at b1 b2; omega), fun p5 hp5 => ?_⟩
        have s5 := s4.trans (same_new (o := .lst (cutV (ptsV g.to) none (some (i : Int)) ++ [.int (v : Int)] ++ cutV (ptsV g.to) (some ((i : Int) + 1)) none)) hp5)
        have ec : cutV (ptsV g.to) none (some (i : Int)) ++ [.int (v : Int)] ++ cutV (ptsV g.to) (some ((i : Int) + 1)) none = ptsV (g.to.set i v) := by
          have e1 : (i : Int) + 1 = ((i + 1 : Nat) : Int) := by omega
          rw [e1, cut_from, cut_to _ _ (by rw [hpl]; omega), set_parts _ _ _ hl]
        intro x dxn nx ndx nex
        refine ⟨x, dxn, p5, rfl, upd_same, fun fd' H1 kp hfd h1 h2 => ⟨rfl, ?_⟩⟩
        rw [ec] at nx ndx kp s5
        obtain ⟨s6, l6⟩ := ln_made (g := { g with to := g.to.set i v }) nx ndx upd_same kp h1
        have s7 := s5.trans s6
        have hd1 := s7 _ _ l.ins
        refine ⟨_, rfl, d, _, dx, _, rfl, hd1, T.clD, T.nOwn, (by show 1 < 1000; decide), ?_⟩
        obtain ⟨dk2, lt2⟩ := Dk.store hd1 wf' (LnD.new l6 h2) (.of s7)
        have lo := (ln.same s7).over (o := .ins A.cD dx (putF "own" (.ref x) (DkF (.ref a)))) hd1 l.ne
        obtain ⟨dxo, hxo⟩ := lo.ins
        refine ⟨_, rfl, a, _, dxo, _, _, rfl, hxo, T.clL, T.nPoints, lnF_points _ _, _, rfl, lp, _, _, _, rfl, rfl, SqL.of lo.pts, atI_nat (j := i) (pts_at wf (by omega)), line_le (by show 1 ≤ 16777216; decide), fun p hp => ?_⟩
        exact yes p _ (lt2.trans (.of (same_new hp))) (dk2.same (same_new hp)) (free_upd s7 hp) upd_same
      · have y' : ¬ (v : Int) ≤ (g.n : Int) := of_decide_eq_false y
        have e : Su183.does g (.set i v) = (g, Su183.no (-22)) := by
          show (if g.n < i then _ else if g.n < v then _ else _) = _
          rw [if_neg (by omega), if_pos (by omega)]
        exact (go.no e (by decide)).rz (.of (Same.refl _)) dk
    · have z' : ¬ (i : Int) ≤ (g.n : Int) := of_decide_eq_false z
      have e : Su183.does g (.set i v) = (g, Su183.no (-2)) := by
        show (if g.n < i then _ else _) = _
        rw [if_pos (by omega)]
      exact (go.no e (by decide)).rz (.of (Same.refl _)) dk

/-! ## turn, state -/
def spDTurn (A : Ad) : Sp := fun vs H Q E => ∃ (d : Addr) (g : Abs), vs = [.ref d] ∧ Dk A H d (some g) ∧ Goes A d H g .turn Q E
theorem sc_d_turn : FnScope ["self"] ["self"] (defScope s_d_turn) := ⟨rfl, rfl, rfl, by decide +kernel, rfl, by decide +kernel, by decide +kernel⟩
theorem ok_d_turn (T : Txt K mg A) : FnOk P w K mg base (L2.CX P w) 5 A.d_turn.a A.d_turn.d ["self"] (spDTurn A) := by
  refine T.d_turn.fn.okX sc_d_turn (fun vs H Q E h => ?_) (fun cdv B outer s H vs Q E hr h => ?_)
  · obtain ⟨d, g, rfl, _⟩ := h
    rfl
  · obtain ⟨d, g, rfl, dk, go⟩ := h
    refine ⟨_, pss_cons (ps_fld (pv 0) (pe_meth0 (pe_meth0 (pv 0) T.clD T.d_line.m (ok_d_line T) hr T.d_line.b .nil (passes_call (takes_of rfl rfl rfl rfl) fun _ _ _ _ h => h)) T.clL T.l_turned.m (ok_l_turned T) (hr.mono (by decide)) T.l_turned.b .nil pass0) rfl)
      (pss_one (ps_ret (pe_lst (pa_cons pe_int pa_nil)))), ?_⟩
    obtain ⟨dx0, a0, lp0, fd0, l0⟩ := id dk
    have yes := go.yes (g' := g.turned) (n := 0) (l := []) rfl
    refine ⟨_, rfl, d, dx0, _, rfl, l0.ins, DkF_no _ (by decide +kernel), d, some g, rfl, dk, (fun z => nomatch z), fun dx a lp fd g' eg l => ?_⟩
    cases eg
    have wf := l.wf
    have ln := l.lnd.ln
    obtain ⟨dxl, hx⟩ := ln.ins
    refine ⟨a, dxl, _, rfl, hx, lnF_no _ _ (by decide +kernel) (by decide +kernel), a, lp, fd, g, rfl, wf, ln, fun x lp' fd' H1 s1 nx nf l1 h2 => ?_⟩
    have hd1 := s1 _ _ l.ins
    refine ⟨_, rfl, d, _, dx, _, rfl, hd1, T.clD, T.nOwn, (by show 1 < 1000; decide), ?_⟩
    obtain ⟨dk2, lt2⟩ := Dk.store hd1 (FL.turned_wf wf) (LnD.new l1 h2) (.of s1)
    refine ⟨line_le (by show 1 ≤ 16777216; decide), fun p hp => ?_⟩
    exact yes p _ (lt2.trans (.of (same_new hp))) (dk2.same (same_new hp)) (free_upd s1 hp) upd_same
def spDState (A : Ad) : Sp := fun vs H Q E => ∃ (d : Addr) (g : Abs), vs = [.ref d] ∧ Dk A H d (some g) ∧ Goes A d H g .state Q E
theorem sc_d_state : FnScope ["self", "line"] ["self"] (defScope s_d_state) := ⟨rfl, rfl, rfl, by decide +kernel, rfl, by decide +kernel, by decide +kernel⟩
theorem ptsV_intV (l : List Nat) : ptsV l = intV (Su183.ints l) := by
  unfold ptsV intV Su183.ints
  rw [List.map_map]
  rfl
theorem ok_d_state (T : Txt K mg A) : FnOk P w K mg base (L2.CX P w) 5 A.d_state.a A.d_state.d ["self"] (spDState A) := by
  refine T.d_state.fn.okX sc_d_state (fun vs H Q E h => ?_) (fun cdv B outer s H vs Q E hr h => ?_)
  · obtain ⟨d, g, rfl, _⟩ := h
    rfl
  · obtain ⟨d, g, rfl, dk, go⟩ := h
    refine ⟨_, pss_cons (ps_set (i := 1) sc_d_state.nd rfl (.inl rfl) (pe_meth0 (pv 0) T.clD T.d_line.m (ok_d_line T) hr T.d_line.b .nil (passes_call (takes_of rfl rfl rfl rfl) fun _ _ _ _ h => h)))
      (pss_one (ps_ret (pe_op op_cat (pe_lst (pa_cons (pe_meth0 (pv 1) T.clL T.l_many.m (ok_l_many T) (hr.mono (by decide)) T.l_many.b .nil pass0) pa_nil)) (pe_fld (pv 1) rfl)))), ?_⟩
    obtain ⟨dx0, a0, lp0, fd0, l0⟩ := id dk
    have yes := go.yes (g' := g) (n := g.n) (l := Su183.ints g.to) rfl
    refine ⟨_, rfl, d, dx0, _, rfl, l0.ins, DkF_no _ (by decide +kernel), d, some g, rfl, dk, (fun z => nomatch z), fun dx a lp fd g' eg l => ?_⟩
    cases eg
    have wf := l.wf
    have h6 := wf.six
    have ln := l.lnd.ln
    obtain ⟨dxl, hx⟩ := ln.ins
    refine ⟨_, rfl, a, dxl, _, rfl, hx, lnF_no _ _ (by decide +kernel) (by decide +kernel), a, lp, fd, g, rfl, wf, ln, line_le (by show 1 ≤ 16777216; decide), fun p1 hp1 => ?_⟩
    have s1 := same_new (o := .lst [.int (g.n : Int)]) hp1
    obtain ⟨dx1, hx1⟩ := (ln.same s1).ins
    refine ⟨_, rfl, a, _, dx1, _, _, rfl, hx1, T.clL, T.nPoints, lnF_points _ _, p1, lp, _, _, rfl, rfl, upd_same, s1 _ _ ln.pts, line_le (by rw [ptsV_length, wf.len]; show 1 + _ ≤ 16777216; omega), fun p hp => ?_⟩
    have s2 := s1.trans (same_new (o := .lst ([.int (g.n : Int)] ++ ptsV g.to)) hp)
    refine yes p _ (.of s2) (dk.same s2) (s1.free hp) ?_
    rw [upd_same, ptsV_intV]
    rfl
end
end FW

namespace FW
open PySem PySem.Spec PyProof.Rows L2
open Su183 (Abs Frac)
open FL (WF Pl)
section
variable {P : Program} {w : World} {K : PySem.W.Frag} {mg : Str → Option Value} {base : Heap} {A : Ad}

/-! ## set_row -/
def spDRow (A : Ad) : Sp := fun vs H Q E => ∃ (d lr : Addr) (g : Abs) (r : List Nat), vs = [.ref d, .ref lr] ∧ Dk A H d (some g) ∧ H lr = some (.lst (ptsV r)) ∧ r.length ≤ 1000 ∧ Goes A d H g (.row r) Q E
theorem sc_d_set_row : FnScope ["self", "points", "many", "point"] ["self", "points"] (defScope s_d_set_row) := ⟨rfl, rfl, rfl, by decide +kernel, rfl, by decide +kernel, by decide +kernel⟩
theorem ptsV_get {l : List Nat} {i : Nat} {v : V} (h : (ptsV l)[i]? = some v) : ∃ j, l[i]? = some j ∧ v = .int (j : Int) := natV_get h
theorem ok_d_set_row (T : Txt K mg A) : FnOk P w K mg base (L2.CX P w) 5 A.d_set_row.a A.d_set_row.d ["self", "points"] (spDRow A) := by
  refine T.d_set_row.fn.okX sc_d_set_row (fun vs H Q E h => ?_) (fun cdv B outer s H vs Q E hr h => ?_)
  · obtain ⟨d, lr, g, r, rfl, _⟩ := h
    rfl
  · obtain ⟨d, lr, g, r, rfl, dk, hlr, hrl, go⟩ := h
    obtain ⟨t2, c2⟩ := T.c_NOT_AS_TOLD
    refine ⟨_, pss_cons (ps_set (i := 2) sc_d_set_row.nd rfl (.inr rfl) (pe_meth0 (pe_meth0 (pv 0) T.clD T.d_line.m (ok_d_line T) hr T.d_line.b .nil (passes_call (takes_of rfl rfl rfl rfl) fun _ _ _ _ h => h)) T.clL T.l_many.m (ok_l_many T) (hr.mono (by decide)) T.l_many.b .nil pass0))
      (pss_cons (ps_expr (pe_call (ok_want T) (hr.mono (by decide)) (by rfl) T.want.mg T.want.fn.kp T.want.b .nil (passes_call (takes_of rfl rfl rfl rfl) fun _ _ _ _ h => h)
        (pa_cons (pe_and (pe_cmpR op_eq (pe_callB call_len_seq (by rfl) T.b_len PySem.boot_len (pa_cons (pv 1) pa_nil)) (pe_op op_add (pv 2) pe_int) (nomark _))
          (pe_one (pe_callB (cr_all rfl) (by rfl) T.b_all (by decide +kernel) (pa_cons
            (pe_lc (own := [("point", 3)]) (g := gName 3) (tt := tYes) rfl sc_d_set_row.nd (pi_list (pv 1))
              (blkOk_by (own := [("point", 3)]) (N := ["self", "points", "many", "point"]) (sc := defScope s_d_set_row) (by decide +kernel))
              (fun _ _ _ _ _ => pg_name (i := 3) sc_d_set_row.nd rfl (Or.inl rfl)) (fun _ _ _ _ _ => pts_nil) (fun _ _ _ _ _ => pe_cmpR op_le (pv 3) (pv 2) (nomark _))) pa_nil))))
          (pa_cons (pe_glob (v := .int (-22)) (by rfl) c2 ⟨_, rfl⟩) pa_nil))))
      (pss_cons (ps_fld (pv 0) (pe_make T.mkL (ok_l_init T) (hr.mono (by decide)) (by rfl) T.gL T.l_init.b .nil pass0 (pa_cons (pv 1) pa_nil)) rfl)
      (pss_one (ps_ret (pe_lst (pa_cons pe_int pa_nil)))))), ?_⟩
    obtain ⟨dx0, a0, lp0, fd0, l0⟩ := id dk
    refine ⟨_, rfl, d, dx0, _, rfl, l0.ins, DkF_no _ (by decide +kernel), d, some g, rfl, dk, (fun z => nomatch z), fun dx a lp fd g' eg l => ?_⟩
    cases eg
    have wf := l.wf
    have h6 := wf.six
    have ln := l.lnd.ln
    obtain ⟨dxl, hx⟩ := ln.ins
    refine ⟨a, dxl, _, rfl, hx, lnF_no _ _ (by decide +kernel) (by decide +kernel), a, lp, fd, g, rfl, wf, ln, ?_⟩
    have ed : Su183.does g (.row r) = if r.length ≠ g.n + 1 ∨ r.any (fun v => decide (g.n < v)) = true then (g, Su183.no (-22)) else ({ g with to := r }, Su183.num 0 []) := rfl
    refine ⟨_, rfl, lr, _, rfl, .inl (SqL.of hlr), _, rfl, _, _, rfl, rfl, rfl, _, rfl, ?_⟩
    rw [ptsV_length]
    refine ite2 (fun z => ?_) (fun z => ?_)
    · have z1 : V.int (r.length : Int) = V.int ((g.n : Int) + 1) := of_decide_eq_true z
      have z2 : r.length = g.n + 1 := by
        injection z1 with z1
        omega
      refine ⟨_, rfl, lr, rfl, ⟨_, SqL.of hlr⟩, fun D hD => ?_⟩
      refine lc_list (K := K) (a := lr) (xs := ptsV r) (fun i H' => Same H H' ∧ H' D = some (.lst (((r.take i).map fun (v : Nat) => decide ((v : Int) ≤ (g.n : Int))).map V.bl)))
        ⟨same_new hD, upd_same⟩ (fun i H' _ q => SqL.of (q.1 _ _ hlr)) ?_ ?_
      · rintro i y H' hy ⟨s1, h1⟩
        obtain ⟨j, ej, rfl⟩ := ptsV_get hy
        refine ⟨rfl, _, rfl, _, rfl, _, _, rfl, rfl, _, h1, line_lt ?_, same_upd s1 hD, ?_⟩
        · rw [List.length_map, List.length_map, List.length_take]
          omega
        · rw [upd_same, List.take_add_one, ej, List.map_append, List.map_append]
          rfl
      · rintro H' ⟨s1, h1⟩
        rw [ptsV_length, List.take_length] at h1
        refine ⟨D, _, rfl, SqL.of h1, _, _, rfl, fun y => ?_, fun y => ?_⟩
        · have all : ∀ v ∈ r, v ≤ g.n := fun v hv => by
            rw [List.all_map, List.all_eq_true] at y
            have := y v hv
            have q : (v : Int) ≤ (g.n : Int) := of_decide_eq_true this
            omega
          have e : Su183.does g (.row r) = ({ g with to := r }, Su183.num 0 []) := by
            rw [ed, if_neg]
            rintro (q | q)
            · exact q z2
            · rw [List.any_eq_true] at q
              obtain ⟨v, hv, q⟩ := q
              have := all v hv
              have := of_decide_eq_true q
              omega
          have yes := go.yes e
          refine ⟨_, rfl, ?_⟩
          intro x dxn nx ndx nex
          refine ⟨x, dxn, lr, rfl, upd_same, fun fd' H1 kp hfd h2 h3 => ⟨rfl, ?_⟩⟩
          obtain ⟨s6, l6⟩ := ln_made (g := { g with to := r }) nx ndx (s1 _ _ hlr) kp h2
          have s7 := s1.trans s6
          have hd1 := s7 _ _ l.ins
          refine ⟨_, rfl, d, _, dx, _, rfl, hd1, T.clD, T.nOwn, (by show 1 < 1000; decide), ?_⟩
          obtain ⟨dk2, lt2⟩ := Dk.store hd1 (FL.row_wf wf z2 all) (LnD.new l6 h3) (.of s7)
          refine ⟨line_le (by show 1 ≤ 16777216; decide), fun p hp => ?_⟩
          exact yes p _ (lt2.trans (.of (same_new hp))) (dk2.same (same_new hp)) (free_upd s7 hp) upd_same
        · have e : Su183.does g (.row r) = (g, Su183.no (-22)) := by
            rw [ed, if_pos]
            right
            rw [List.any_eq_true]
            have nall : ¬ ((r.map fun (v : Nat) => decide ((v : Int) ≤ (g.n : Int))).all id = true) := by
              rw [y]
              exact Bool.false_ne_true
            rw [List.all_map, List.all_eq_true] at nall
            false_or_by_contra
            rename_i q
            apply nall
            intro v hv
            apply decide_eq_true
            false_or_by_contra
            rename_i q2
            exact q ⟨v, hv, decide_eq_true (by omega)⟩
          exact (go.no e (by decide)).rz (.of s1) (dk.same s1)
    · have z2 : r.length ≠ g.n + 1 := fun y => z (by
        show decide (V.int (r.length : Int) = V.int ((g.n : Int) + 1)) = true
        rw [y]
        exact decide_eq_true rfl)
      have e : Su183.does g (.row r) = (g, Su183.no (-22)) := by
        rw [ed, if_pos (.inl z2)]
      exact ⟨_, _, rfl, fun y => absurd y Bool.false_ne_true, fun _ => (go.no e (by decide)).rz (.of (Same.refl _)) dk⟩

/-! ## place, want_piece -/
def spPlace (A : Ad) : Sp := fun vs H Q E => ∃ (d : Addr) (g : Abs) (p q : Nat), vs = [.ref d, .int (p : Int), .int (q : Int)] ∧ Dk A H d (some g) ∧ (g.okPlace p q = false → Rz A E (-22) H) ∧
  (g.okPlace p q = true → ∀ t H', Same H H' → H t = none → H' t = some (.tup (frV (Su183.red (p : Int) q))) → Q (.ref t) H')
theorem sc_d_place : FnScope ["self", "p", "q"] ["self", "p", "q"] (defScope s_d_place) := ⟨rfl, rfl, rfl, by decide +kernel, rfl, by decide +kernel, by decide +kernel⟩
theorem okPlace_iff {g : Abs} {p q : Nat} : g.okPlace p q = true ↔ 0 < q ∧ q ≤ 40 ∧ p ≤ g.n * q := by
  unfold Abs.okPlace Su183.BELOW
  rw [Bool.and_eq_true, Bool.and_eq_true, decide_eq_true_iff, decide_eq_true_iff, decide_eq_true_iff]
theorem okPlace_pl {g : Abs} {p q : Nat} (h : g.okPlace p q = true) : Pl g (Su183.red (p : Int) q) ∧ (Su183.red (p : Int) q).2 ≤ 1000 := by
  obtain ⟨h1, h2, h3⟩ := okPlace_iff.mp h
  refine ⟨Pl.red h1 ⟨by omega, ?_⟩, ?_⟩
  · have e : ((g.n * q : Nat) : Int) = (g.n : Int) * (q : Int) := by push_cast; rfl
    omega
  · have : (Su183.red (p : Int) q).2 ≤ q := Nat.div_le_self _ _
    omega
theorem ok_d_place (T : Txt K mg A) : FnOk P w K mg base (L2.CX P w) 5 A.d_place.a A.d_place.d ["self", "p", "q"] (spPlace A) := by
  refine T.d_place.fn.okX sc_d_place (fun vs H Q E h => ?_) (fun cdv B outer s H vs Q E hr h => ?_)
  · obtain ⟨d, g, p, q, rfl, _⟩ := h
    rfl
  · obtain ⟨d, g, p, q, rfl, dk, kN, kS⟩ := h
    obtain ⟨t1, c1⟩ := T.c_MOST_BELOW
    obtain ⟨t2, c2⟩ := T.c_NOT_AS_TOLD
    refine ⟨_, pss_cons (ps_expr (pe_call (ok_want T) (hr.mono (by decide)) (by rfl) T.want.mg T.want.fn.kp T.want.b .nil (passes_call (takes_of rfl rfl rfl rfl) fun _ _ _ _ h => h)
        (pa_cons (pe_and (pe_chain op_le op_le pe_int (pv 2) (pe_glob (v := .int 40) (by rfl) c1 ⟨_, rfl⟩))
          (pe_one (pe_cmpR op_le (pv 1) (pe_op op_mul (pe_meth0 (pe_meth0 (pv 0) T.clD T.d_line.m (ok_d_line T) hr T.d_line.b .nil (passes_call (takes_of rfl rfl rfl rfl) fun _ _ _ _ h => h)) T.clL T.l_many.m (ok_l_many T) (hr.mono (by decide)) T.l_many.b .nil pass0) (pv 2)) (nomark _))))
          (pa_cons (pe_glob (v := .int (-22)) (by rfl) c2 ⟨_, rfl⟩) pa_nil))))
      (pss_one (ps_ret (pe_call (ok_fraction T) (hr.mono (by decide)) (by rfl) T.fraction.mg T.fraction.fn.kp T.fraction.b .nil pass0 (pa_cons (pv 1) (pa_cons (pv 2) pa_nil))))), ?_⟩
    have no : ¬ (0 < q ∧ q ≤ 40 ∧ p ≤ g.n * q) → Rz A E (-22) H := fun z => kN (by
      cases e : g.okPlace p q with
      | false => rfl
      | true => exact absurd (okPlace_iff.mp e) z)
    refine ⟨_, rfl, _, _, rfl, rfl, _, rfl, ?_⟩
    refine ite2 (fun a1 => ?_) (fun a1 => ?_)
    · have a1' : (1 : Int) ≤ (q : Int) := of_decide_eq_true a1
      refine ⟨_, _, rfl, rfl, _, rfl, ?_⟩
      refine ite2 (fun a2 => ?_) (fun a2 => ?_)
      · have a2' : (q : Int) ≤ 40 := of_decide_eq_true a2
        obtain ⟨dx0, a0, lp0, fd0, l0⟩ := id dk
        refine ⟨_, rfl, _, rfl, d, dx0, _, rfl, l0.ins, DkF_no _ (by decide +kernel), d, some g, rfl, dk, (fun z => nomatch z), fun dx a lp fd g' eg l => ?_⟩
        cases eg
        have wf := l.wf
        have h6 := wf.six
        have ln := l.lnd.ln
        obtain ⟨dxl, hx⟩ := ln.ins
        have em : ((g.n * q : Nat) : Int) = (g.n : Int) * (q : Int) := by push_cast; rfl
        refine ⟨a, dxl, _, rfl, hx, lnF_no _ _ (by decide +kernel) (by decide +kernel), a, lp, fd, g, rfl, wf, ln, _, rfl, _, _, rfl, rfl, .inl ⟨by omega, by omega⟩, _, _, rfl, rfl, _, _, rfl, fun z => ?_, fun z => ?_⟩
        · have z' : (p : Int) ≤ (g.n : Int) * (q : Int) := of_decide_eq_true z
          have kS := kS (okPlace_iff.mpr ⟨by omega, by omega, by omega⟩)
          exact ⟨_, rfl, _, rfl, p, q, rfl, by omega, by omega, fun t H' s1 ht h1 => kS t H' s1 ht h1⟩
        · have z' : ¬ (p : Int) ≤ (g.n : Int) * (q : Int) := of_decide_eq_false z
          exact no (by omega)
      · have a2' : ¬ (q : Int) ≤ 40 := fun z => a2 (decide_eq_true z)
        exact ⟨_, _, rfl, fun z => absurd z Bool.false_ne_true, fun _ => no (by omega)⟩
    · have a1' : ¬ (1 : Int) ≤ (q : Int) := fun z => a1 (decide_eq_true z)
      refine ⟨_, rfl, ?_⟩
      refine iteF ?_
      exact ⟨_, _, rfl, fun z => absurd z Bool.false_ne_true, fun _ => no (by omega)⟩
def spWantPiece (A : Ad) : Sp := fun vs H Q E => ∃ (d : Addr) (g : Abs) (i : Nat), vs = [.ref d, .int (i : Int)] ∧ Dk A H d (some g) ∧ (g.n ≤ i → Rz A E (-2) H) ∧ (i < g.n → Q .non H)
theorem sc_d_want_piece : FnScope ["self", "i"] ["self", "i"] (defScope s_d_want_piece) := ⟨rfl, rfl, rfl, by decide +kernel, rfl, by decide +kernel, by decide +kernel⟩
theorem ok_d_want_piece (T : Txt K mg A) : FnOk P w K mg base (L2.CX P w) 5 A.d_want_piece.a A.d_want_piece.d ["self", "i"] (spWantPiece A) := by
  refine T.d_want_piece.fn.okX sc_d_want_piece (fun vs H Q E h => ?_) (fun cdv B outer s H vs Q E hr h => ?_)
  · obtain ⟨d, g, i, rfl, _⟩ := h
    rfl
  · obtain ⟨d, g, i, rfl, dk, kN, kS⟩ := h
    obtain ⟨t2, c2⟩ := T.c_NO_SUCH
    refine ⟨_, pss_one (ps_expr (pe_call (ok_want T) (hr.mono (by decide)) (by rfl) T.want.mg T.want.fn.kp T.want.b .nil (passes_call (takes_of rfl rfl rfl rfl) fun _ _ _ _ h => h)
        (pa_cons (pe_cmpR op_lt (pv 1) (pe_meth0 (pe_meth0 (pv 0) T.clD T.d_line.m (ok_d_line T) hr T.d_line.b .nil (passes_call (takes_of rfl rfl rfl rfl) fun _ _ _ _ h => h)) T.clL T.l_many.m (ok_l_many T) (hr.mono (by decide)) T.l_many.b .nil pass0) (nomark _))
          (pa_cons (pe_glob (v := .int (-2)) (by rfl) c2 ⟨_, rfl⟩) pa_nil)))), ?_⟩
    obtain ⟨dx0, a0, lp0, fd0, l0⟩ := id dk
    refine ⟨_, rfl, _, rfl, d, dx0, _, rfl, l0.ins, DkF_no _ (by decide +kernel), d, some g, rfl, dk, (fun z => nomatch z), fun dx a lp fd g' eg l => ?_⟩
    cases eg
    have wf := l.wf
    have ln := l.lnd.ln
    obtain ⟨dxl, hx⟩ := ln.ins
    refine ⟨a, dxl, _, rfl, hx, lnF_no _ _ (by decide +kernel) (by decide +kernel), a, lp, fd, g, rfl, wf, ln, _, _, rfl, rfl, _, _, rfl, fun z => ?_, fun z => ?_⟩
    · have z' : (i : Int) < (g.n : Int) := of_decide_eq_true z
      exact kS (by omega)
    · have z' : ¬ (i : Int) < (g.n : Int) := of_decide_eq_false z
      exact kN (by omega)

/-! ## put, comes -/
def spDPut (A : Ad) : Sp := fun vs H Q E => ∃ (d : Addr) (g : Abs) (p q : Nat), vs = [.ref d, .int (p : Int), .int (q : Int)] ∧ Dk A H d (some g) ∧ Goes A d H g (.put p q) Q E
theorem sc_d_put : FnScope ["self", "p", "q"] ["self", "p", "q"] (defScope s_d_put) := ⟨rfl, rfl, rfl, by decide +kernel, rfl, by decide +kernel, by decide +kernel⟩
theorem ok_d_put (T : Txt K mg A) : FnOk P w K mg base (L2.CX P w) 6 A.d_put.a A.d_put.d ["self", "p", "q"] (spDPut A) := by
  refine T.d_put.fn.okX sc_d_put (fun vs H Q E h => ?_) (fun cdv B outer s H vs Q E hr h => ?_)
  · obtain ⟨d, g, p, q, rfl, _⟩ := h
    rfl
  · obtain ⟨d, g, p, q, rfl, dk, go⟩ := h
    refine ⟨_, pss_one (ps_ret (pe_op op_cat (pe_lst (pa_cons pe_int pa_nil)) (pe_callTy call_list_of (by rfl) T.b_list (by decide +kernel) (pa_cons
      (pe_meth (pe_meth0 (pv 0) T.clD T.d_line.m (ok_d_line T) (hr.mono (by decide)) T.d_line.b .nil (passes_call (takes_of rfl rfl rfl rfl) fun _ _ _ _ h => h)) T.clL T.l_put.m (ok_l_put T) (hr.mono (by decide)) T.l_put.b .nil pass0
        (pa_cons (pe_meth (pv 0) T.clD T.d_place.m (ok_d_place T) hr T.d_place.b .nil (passes_call (takes_of rfl rfl rfl rfl) fun _ _ _ _ h => h) (pa_cons (pv 1) (pa_cons (pv 2) pa_nil))) pa_nil)) pa_nil)))), ?_⟩
    have ed : Su183.does g (.put p q) = if g.okPlace p q = false then (g, Su183.no (-22)) else (g, Su183.num 0 (Su183.ofFrac (g.put (Su183.red (p : Int) q)))) := rfl
    refine ⟨line_le (by show 1 ≤ 16777216; decide), fun p0 hp0 => ?_⟩
    have s0 := same_new (o := .lst [.int 0]) hp0
    have dk0 := dk.same s0
    obtain ⟨dx0, a0, lp0, fd0, l0⟩ := id dk0
    refine ⟨_, rfl, d, dx0, _, rfl, l0.ins, DkF_no _ (by decide +kernel), d, some g, rfl, dk0, (fun z => nomatch z), fun dx a lp fd g' eg l => ?_⟩
    cases eg
    have wf := l.wf
    have ln := l.lnd.ln
    obtain ⟨dxl, hx⟩ := ln.ins
    refine ⟨a, dxl, _, rfl, hx, lnF_no _ _ (by decide +kernel) (by decide +kernel), ?_⟩
    refine ⟨_, rfl, d, dx0, _, rfl, l0.ins, DkF_no _ (by decide +kernel), _, rfl, _, rfl, d, g, p, q, rfl, dk0, fun z => ?_, fun z t H1 s1 nt ht => ?_⟩
    · have e : Su183.does g (.put p q) = (g, Su183.no (-22)) := by rw [ed, if_pos z]
      exact (go.no e (by decide)).rz (.of s0) dk0
    · have e : Su183.does g (.put p q) = (g, Su183.num 0 (Su183.ofFrac (g.put (Su183.red (p : Int) q)))) := by rw [ed, if_neg (by rw [z]; decide)]
      have yes := go.yes e
      obtain ⟨pl, p2⟩ := okPlace_pl z
      refine ⟨a, lp, fd, t, g, Su183.red (p : Int) q, rfl, wf, ln.same s1, pl, p2, ht, fun t2 H2 s2 nt2 ht2 => ?_⟩
      refine ⟨t2, _, rfl, .inr (SqT.of ht2), fun l2 hl2 => ?_⟩
      have s3 := s0.trans (s1.trans s2)
      have h0 := s2 _ _ (s1 _ _ (upd_same (H := H) (a := p0) (o := .lst [.int 0])))
      have n02 : p0 ≠ l2 := ne_of_none h0 hl2
      refine ⟨p0, l2, _, _, rfl, rfl, by rw [upd_ne n02]; exact h0, upd_same, line_le (by show 1 + 2 ≤ 16777216; decide), fun p3 hp3 => ?_⟩
      have s4 := s3.trans ((same_new hl2).trans (same_new (o := .lst ([.int 0] ++ frV (g.put (Su183.red (p : Int) q)))) hp3))
      refine yes p3 _ (.of s4) (dk.same s4) ((s3.trans (same_new hl2)).free hp3) ?_
      rw [upd_same]
      rfl
def spDComes (A : Ad) : Sp := fun vs H Q E => ∃ (d : Addr) (g : Abs) (p q : Nat), vs = [.ref d, .int (p : Int), .int (q : Int)] ∧ Dk A H d (some g) ∧ Goes A d H g (.comes p q) Q E
theorem sc_d_comes : FnScope ["self", "p", "q"] ["self", "p", "q"] (defScope s_d_comes) := ⟨rfl, rfl, rfl, by decide +kernel, rfl, by decide +kernel, by decide +kernel⟩
theorem ok_d_comes (T : Txt K mg A) : FnOk P w K mg base (L2.CX P w) 6 A.d_comes.a A.d_comes.d ["self", "p", "q"] (spDComes A) := by
  refine T.d_comes.fn.okX sc_d_comes (fun vs H Q E h => ?_) (fun cdv B outer s H vs Q E hr h => ?_)
  · obtain ⟨d, g, p, q, rfl, _⟩ := h
    rfl
  · obtain ⟨d, g, p, q, rfl, dk, go⟩ := h
    refine ⟨_, pss_one (ps_ret (pe_callTy call_list_of (by rfl) T.b_list (by decide +kernel) (pa_cons
      (pe_meth (pe_meth0 (pv 0) T.clD T.d_line.m (ok_d_line T) (hr.mono (by decide)) T.d_line.b .nil (passes_call (takes_of rfl rfl rfl rfl) fun _ _ _ _ h => h)) T.clL T.l_comes.m (ok_l_comes T) (hr.mono (by decide)) T.l_comes.b .nil pass0
        (pa_cons (pe_meth (pv 0) T.clD T.d_place.m (ok_d_place T) hr T.d_place.b .nil (passes_call (takes_of rfl rfl rfl rfl) fun _ _ _ _ h => h) (pa_cons (pv 1) (pa_cons (pv 2) pa_nil))) pa_nil)) pa_nil))), ?_⟩
    have ed : Su183.does g (.comes p q) = if g.okPlace p q = false then (g, Su183.no (-22)) else (g, Su183.num (g.comes (Su183.red (p : Int) q)).1 [((g.comes (Su183.red (p : Int) q)).2 : Int)]) := rfl
    obtain ⟨dx0, a0, lp0, fd0, l0⟩ := id dk
    refine ⟨_, rfl, d, dx0, _, rfl, l0.ins, DkF_no _ (by decide +kernel), d, some g, rfl, dk, (fun z => nomatch z), fun dx a lp fd g' eg l => ?_⟩
    cases eg
    have wf := l.wf
    have ln := l.lnd.ln
    obtain ⟨dxl, hx⟩ := ln.ins
    refine ⟨a, dxl, _, rfl, hx, lnF_no _ _ (by decide +kernel) (by decide +kernel), ?_⟩
    refine ⟨_, rfl, d, dx0, _, rfl, l0.ins, DkF_no _ (by decide +kernel), _, rfl, _, rfl, d, g, p, q, rfl, dk, fun z => ?_, fun z t H1 s1 nt ht => ?_⟩
    · have e : Su183.does g (.comes p q) = (g, Su183.no (-22)) := by rw [ed, if_pos z]
      exact (go.no e (by decide)).rz (.of (Same.refl _)) dk
    · have e : Su183.does g (.comes p q) = (g, Su183.num (g.comes (Su183.red (p : Int) q)).1 [((g.comes (Su183.red (p : Int) q)).2 : Int)]) := by rw [ed, if_neg (by rw [z]; decide)]
      have yes := go.yes e
      obtain ⟨pl, p2⟩ := okPlace_pl z
      refine ⟨a, lp, fd, t, g, Su183.red (p : Int) q, rfl, wf, ln.same s1, pl, p2, ht, fun t2 H2 s2 nt2 ht2 => ?_⟩
      refine ⟨t2, _, rfl, .inr (SqT.of ht2), fun l2 hl2 => ?_⟩
      have s3 := s1.trans s2
      have s4 := s3.trans (same_new (o := .lst [.int ((g.comes (Su183.red (p : Int) q)).1 : Int), .int ((g.comes (Su183.red (p : Int) q)).2 : Int)]) hl2)
      refine yes l2 _ (.of s4) (dk.same s4) (s3.free hl2) ?_
      rw [upd_same]
      rfl

/-! ## covers, slope -/
def spDCovers (A : Ad) : Sp := fun vs H Q E => ∃ (d : Addr) (g : Abs) (i j : Nat), vs = [.ref d, .int (i : Int), .int (j : Int)] ∧ Dk A H d (some g) ∧ Goes A d H g (.covers i j) Q E
theorem sc_d_covers : FnScope ["self", "i", "j"] ["self", "i", "j"] (defScope s_d_covers) := ⟨rfl, rfl, rfl, by decide +kernel, rfl, by decide +kernel, by decide +kernel⟩
theorem ok_d_covers (T : Txt K mg A) : FnOk P w K mg base (L2.CX P w) 6 A.d_covers.a A.d_covers.d ["self", "i", "j"] (spDCovers A) := by
  refine T.d_covers.fn.okX sc_d_covers (fun vs H Q E h => ?_) (fun cdv B outer s H vs Q E hr h => ?_)
  · obtain ⟨d, g, i, j, rfl, _⟩ := h
    rfl
  · obtain ⟨d, g, i, j, rfl, dk, go⟩ := h
    refine ⟨_, pss_cons (ps_expr (pe_meth (pv 0) T.clD T.d_want_piece.m (ok_d_want_piece T) hr T.d_want_piece.b .nil (passes_call (takes_of rfl rfl rfl rfl) fun _ _ _ _ h => h) (pa_cons (pv 1) pa_nil)))
      (pss_cons (ps_expr (pe_meth (pv 0) T.clD T.d_want_piece.m (ok_d_want_piece T) hr T.d_want_piece.b .nil (passes_call (takes_of rfl rfl rfl rfl) fun _ _ _ _ h => h) (pa_cons (pv 2) pa_nil)))
      (pss_one (ps_ret (pe_lst (pa_cons (pe_callTy call_int1 (by rfl) T.b_int (by decide +kernel) (pa_cons
        (pe_meth (pe_meth0 (pv 0) T.clD T.d_line.m (ok_d_line T) (hr.mono (by decide)) T.d_line.b .nil (passes_call (takes_of rfl rfl rfl rfl) fun _ _ _ _ h => h)) T.clL T.l_covers.m (ok_l_covers T) (hr.mono (by decide)) T.l_covers.b .nil pass0 (pa_cons (pv 1) (pa_cons (pv 2) pa_nil))) pa_nil)) pa_nil))))), ?_⟩
    have ed : Su183.does g (.covers i j) = if g.n ≤ i ∨ g.n ≤ j then (g, Su183.no (-2)) else (g, Su183.num (Su183.bit (g.covers i j)) []) := rfl
    obtain ⟨dx0, a0, lp0, fd0, l0⟩ := id dk
    refine ⟨_, rfl, d, dx0, _, rfl, l0.ins, DkF_no _ (by decide +kernel), _, rfl, d, g, i, rfl, dk, fun z => ?_, fun z1 => ?_⟩
    · have e : Su183.does g (.covers i j) = (g, Su183.no (-2)) := by rw [ed, if_pos (.inl z)]
      exact (go.no e (by decide)).rz (.of (Same.refl _)) dk
    · refine ⟨_, rfl, d, dx0, _, rfl, l0.ins, DkF_no _ (by decide +kernel), _, rfl, d, g, j, rfl, dk, fun z => ?_, fun z2 => ?_⟩
      · have e : Su183.does g (.covers i j) = (g, Su183.no (-2)) := by rw [ed, if_pos (.inr z)]
        exact (go.no e (by decide)).rz (.of (Same.refl _)) dk
      · have e : Su183.does g (.covers i j) = (g, Su183.num (Su183.bit (g.covers i j)) []) := by rw [ed, if_neg (by omega)]
        have yes := go.yes e
        refine ⟨_, rfl, d, dx0, _, rfl, l0.ins, DkF_no _ (by decide +kernel), d, some g, rfl, dk, (fun z => nomatch z), fun dx a lp fd g' eg l => ?_⟩
        cases eg
        have wf := l.wf
        have ln := l.lnd.ln
        obtain ⟨dxl, hx⟩ := ln.ins
        refine ⟨a, dxl, _, rfl, hx, lnF_no _ _ (by decide +kernel) (by decide +kernel), _, rfl, _, rfl, a, lp, fd, g, i, j, rfl, wf, ln, z1, .inr ⟨_, rfl, line_le (by show 1 ≤ 16777216; decide), fun p hp => ?_⟩⟩
        refine yes p _ (.of (same_new hp)) (dk.same (same_new hp)) hp ?_
        rw [upd_same, bit_int]
        rfl
def spDSlope (A : Ad) : Sp := fun vs H Q E => ∃ (d : Addr) (g : Abs) (i : Nat), vs = [.ref d, .int (i : Int)] ∧ Dk A H d (some g) ∧ Goes A d H g (.slope i) Q E
theorem sc_d_slope : FnScope ["self", "i"] ["self", "i"] (defScope s_d_slope) := ⟨rfl, rfl, rfl, by decide +kernel, rfl, by decide +kernel, by decide +kernel⟩
theorem ok_d_slope (T : Txt K mg A) : FnOk P w K mg base (L2.CX P w) 6 A.d_slope.a A.d_slope.d ["self", "i"] (spDSlope A) := by
  refine T.d_slope.fn.okX sc_d_slope (fun vs H Q E h => ?_) (fun cdv B outer s H vs Q E hr h => ?_)
  · obtain ⟨d, g, i, rfl, _⟩ := h
    rfl
  · obtain ⟨d, g, i, rfl, dk, go⟩ := h
    refine ⟨_, pss_cons (ps_expr (pe_meth (pv 0) T.clD T.d_want_piece.m (ok_d_want_piece T) hr T.d_want_piece.b .nil (passes_call (takes_of rfl rfl rfl rfl) fun _ _ _ _ h => h) (pa_cons (pv 1) pa_nil)))
      (pss_one (ps_ret (pe_lst (pa_cons pe_int (pa_cons
        (pe_meth (pe_meth0 (pv 0) T.clD T.d_line.m (ok_d_line T) (hr.mono (by decide)) T.d_line.b .nil (passes_call (takes_of rfl rfl rfl rfl) fun _ _ _ _ h => h)) T.clL T.l_slope.m (ok_l_slope T) (hr.mono (by decide)) T.l_slope.b .nil pass0 (pa_cons (pv 1) pa_nil)) pa_nil))))), ?_⟩
    have ed : Su183.does g (.slope i) = if g.n ≤ i then (g, Su183.no (-2)) else (g, Su183.num 0 [g.slope i]) := rfl
    obtain ⟨dx0, a0, lp0, fd0, l0⟩ := id dk
    refine ⟨_, rfl, d, dx0, _, rfl, l0.ins, DkF_no _ (by decide +kernel), _, rfl, d, g, i, rfl, dk, fun z => ?_, fun z1 => ?_⟩
    · have e : Su183.does g (.slope i) = (g, Su183.no (-2)) := by rw [ed, if_pos z]
      exact (go.no e (by decide)).rz (.of (Same.refl _)) dk
    · have e : Su183.does g (.slope i) = (g, Su183.num 0 [g.slope i]) := by rw [ed, if_neg (by omega)]
      have yes := go.yes e
      refine ⟨_, rfl, d, dx0, _, rfl, l0.ins, DkF_no _ (by decide +kernel), d, some g, rfl, dk, (fun z => nomatch z), fun dx a lp fd g' eg l => ?_⟩
      cases eg
      have wf := l.wf
      have ln := l.lnd.ln
      obtain ⟨dxl, hx⟩ := ln.ins
      refine ⟨a, dxl, _, rfl, hx, lnF_no _ _ (by decide +kernel) (by decide +kernel), _, rfl, a, lp, fd, g, i, rfl, wf, ln, z1, line_le (by show 2 ≤ 16777216; decide), fun p hp => ?_⟩
      exact yes p _ (.of (same_new hp)) (dk.same (same_new hp)) hp upd_same

/-! ## way -/
def spDWay (A : Ad) : Sp := fun vs H Q E => ∃ (d : Addr) (g : Abs) (p q k : Nat), vs = [.ref d, .int (p : Int), .int (q : Int), .int (k : Int)] ∧ Dk A H d (some g) ∧ Goes A d H g (.way p q k) Q E
theorem sc_d_way : FnScope ["self", "p", "q", "k", "place", "found", "above", "below"] ["self", "p", "q", "k"] (defScope s_d_way) := ⟨rfl, rfl, rfl, by decide +kernel, rfl, by decide +kernel, by decide +kernel⟩
theorem flatFrac_len (l : List Frac) : (l.flatMap Su183.ofFrac).length = 2 * l.length := by
  induction l with
  | nil => rfl
  | cons x l ih =>
    rw [List.flatMap_cons, List.length_append, ih, List.length_cons]
    show 2 + _ = _
    omega
theorem ok_d_way (T : Txt K mg A) : FnOk P w K mg base (L2.CX P w) 6 A.d_way.a A.d_way.d ["self", "p", "q", "k"] (spDWay A) := by
  refine T.d_way.fn.okX sc_d_way (fun vs H Q E h => ?_) (fun cdv B outer s H vs Q E hr h => ?_)
  · obtain ⟨d, g, p, q, k, rfl, _⟩ := h
    rfl
  · obtain ⟨d, g, p, q, k, rfl, dk, go⟩ := h
    obtain ⟨t1, c1⟩ := T.c_MOST_IN_WAY
    obtain ⟨t2, c2⟩ := T.c_NOT_AS_TOLD
    refine ⟨_, pss_cons (ps_set (i := 4) sc_d_way.nd rfl (.inl rfl) (pe_meth (pv 0) T.clD T.d_place.m (ok_d_place T) hr T.d_place.b .nil (passes_call (takes_of rfl rfl rfl rfl) fun _ _ _ _ h => h) (pa_cons (pv 1) (pa_cons (pv 2) pa_nil))))
      (pss_cons (ps_expr (pe_call (ok_want T) (hr.mono (by decide)) (by rfl) T.want.mg T.want.fn.kp T.want.b .nil (passes_call (takes_of rfl rfl rfl rfl) fun _ _ _ _ h => h)
        (pa_cons (pe_chain op_le op_le pe_int (pv 3) (pe_glob (v := .int 20) (by rfl) c1 ⟨_, rfl⟩)) (pa_cons (pe_glob (v := .int (-22)) (by rfl) c2 ⟨_, rfl⟩) pa_nil))))
      (pss_cons (ps_set (i := 5) sc_d_way.nd rfl (.inl rfl) (pe_lst (pa_cons (pv 3) pa_nil)))
      (pss_cons (ps_for (passes_of rfl) rfl (pi_list (pe_meth (pe_meth0 (pv 0) T.clD T.d_line.m (ok_d_line T) (hr.mono (by decide)) T.d_line.b .nil (passes_call (takes_of rfl rfl rfl rfl) fun _ _ _ _ h => h)) T.clL T.l_way.m (ok_l_way T) (hr.mono (by decide)) T.l_way.b .nil pass0 (pa_cons (pv 4) (pa_cons (pv 3) pa_nil))))
          (pg_tup (by rfl) (pgs_cons (pg_name (i := 6) sc_d_way.nd rfl (.inl rfl)) (pgs_cons (pg_name (i := 7) sc_d_way.nd rfl (.inl rfl)) pgs_nil)))
        (pss_one (ps_expr (pe_bm PySem.F.plainAttrs_list PySem.F.slot_list_extend PySem.F.type_list_extend mt_extend (pv 5) (pa_cons (pe_lst (pa_cons (pv 6) (pa_cons (pv 7) pa_nil))) pa_nil)))))
      (pss_one (ps_ret (pv 5)))))), ?_⟩
    have ed : Su183.does g (.way p q k) = if g.okPlace p q = false ∨ k = 0 ∨ 20 < k then (g, Su183.no (-22)) else (g, Su183.num k ((g.way (Su183.red (p : Int) q) k).flatMap Su183.ofFrac)) := rfl
    obtain ⟨dx0, a0, lp0, fd0, l0⟩ := id dk
    refine ⟨_, rfl, d, dx0, _, rfl, l0.ins, DkF_no _ (by decide +kernel), _, rfl, _, rfl, d, g, p, q, rfl, dk, fun z => ?_, fun z t H1 s1 nt ht => ?_⟩
    · have e : Su183.does g (.way p q k) = (g, Su183.no (-22)) := by rw [ed, if_pos (.inl z)]
      exact (go.no e (by decide)).rz (.of (Same.refl _)) dk
    · have no : (k = 0 ∨ 20 < k) → Rz A E (-22) H1 := fun y => by
        have e : Su183.does g (.way p q k) = (g, Su183.no (-22)) := by rw [ed, if_pos (.inr y)]
        exact (go.no e (by decide)).rz (.of s1) (dk.same s1)
      obtain ⟨pl, p2⟩ := okPlace_pl z
      refine ⟨_, rfl, _, _, rfl, rfl, _, rfl, ?_⟩
      refine ite2 (fun a1 => ?_) (fun a1 => ?_)
      · have a1' : (1 : Int) ≤ (k : Int) := of_decide_eq_true a1
        refine ⟨_, _, rfl, rfl, _, _, rfl, fun a2 => ?_, fun a2 => ?_⟩
        · have a2' : (k : Int) ≤ 20 := of_decide_eq_true a2
          have e : Su183.does g (.way p q k) = (g, Su183.num k ((g.way (Su183.red (p : Int) q) k).flatMap Su183.ofFrac)) := by
            rw [ed, if_neg]
            rintro (y | y | y)
            · rw [z] at y; cases y
            · omega
            · omega
          have yes := go.yes e
          refine ⟨_, rfl, line_le (by show 1 ≤ 16777216; decide), fun D hD => ?_⟩
          have s2 := s1.trans (same_new (o := .lst [.int (k : Int)]) hD)
          have dk2 := dk.same s2
          obtain ⟨dx1, a1x, lp1, fd1, l1⟩ := id dk2
          refine ⟨_, rfl, d, dx1, _, rfl, l1.ins, DkF_no _ (by decide +kernel), d, some g, rfl, dk2, (fun z => nomatch z), fun dx a lp fd g' eg l => ?_⟩
          cases eg
          have wf := l.wf
          have ln := l.lnd.ln
          obtain ⟨dxl, hx⟩ := ln.ins
          have nDt : t ≠ D := ne_of_none ht hD
          refine ⟨a, dxl, _, rfl, hx, lnF_no _ _ (by decide +kernel) (by decide +kernel), _, rfl, _, rfl, a, lp, fd, t, g, Su183.red (p : Int) q, k, rfl, wf, ln, pl, p2, by rw [upd_ne nDt]; exact ht, by omega, by omega, fun L fs H3 s3 nL h3 r3 => ?_⟩
          have lfs := Paired.length r3
          rw [FL.way_length] at lfs
          have hD3 : H3 D = some (.lst [.int (k : Int)]) := s3 _ _ upd_same
          refine ⟨L, rfl, ⟨_, SqL.of h3⟩, for_list (K := K) (a := L) (xs := fs) (fun i σ H' => ∃ v6 v7, σ = [some (.ref d), some (.int (p : Int)), some (.int (q : Int)), some (.int (k : Int)), some (.ref t), some (.ref D), v6, v7] ∧ SameX D H3 H' ∧ H' D = some (.lst (intV ((k : Int) :: ((g.way (Su183.red (p : Int) q) k).take i).flatMap Su183.ofFrac))))
            ⟨none, none, rfl, fun b o e _ => e, hD3⟩ (fun i σ H' _ ⟨_, _, _, s4, _⟩ => SqL.of (s4 _ _ h3 (fun y => by rw [y, upd_same] at nL; cases nL))) ?_ ?_⟩
          · rintro i v σ H' hv ⟨v6, v7, rfl, s4, h4⟩
            obtain ⟨f, ef, tf, rfl, htf⟩ := paired_get r3 hv
            have hi : i < fs.length := (List.getElem?_eq_some_iff.mp hv).1
            have htf' := s4 _ _ htf (ne_of htf hD3 (by intro y; cases y))
            refine ⟨tf, _, rfl, SqT.of htf', rfl, _, _, rfl, _, _, rfl, rfl, ?_⟩
            refine ⟨_, rfl, .inl ⟨rfl, _, SqL.of h4⟩, _, rfl, _, rfl, line_le (by show 2 ≤ 16777216; decide), fun c hc => ?_⟩
            have nDc : D ≠ c := ne_of_none h4 hc
            refine ⟨D, c, _, _, rfl, rfl, by rw [upd_ne nDc]; exact h4, upd_same, line_le ?_, ?_⟩
            · rw [intV_len, List.length_cons, flatFrac_len, List.length_take]
              show _ + 2 ≤ 16777216
              omega
            · refine ⟨some (.int f.1), some (.int (f.2 : Int)), rfl, fun b o e nb => ?_, ?_⟩
              · have := s4 b o e nb
                rw [upd_ne nb, upd_ne (ne_of_none this hc)]
                exact this
              · rw [upd_same, List.take_add_one, ef, List.flatMap_append]
                show some (HO.lst _) = some (HO.lst (intV (((k : Int) :: ((g.way (Su183.red (p : Int) q) k).take i).flatMap Su183.ofFrac) ++ _)))
                rw [intV_append]
                rfl
          · rintro σ H' ⟨v6, v7, rfl, s4, h4⟩
            rw [lfs, List.take_of_length_le (by rw [FL.way_length]; exact Nat.le_refl _)] at h4
            refine ⟨_, rfl, ?_⟩
            have s5 : Same H H' := fun b o e => by
              have n1 : b ≠ D := ne_of_none (s1 _ _ e) hD
              exact s4 _ _ (s3 _ _ (s2 _ _ e)) n1
            exact yes D H' (.of s5) (dk.same s5) (s1.free hD) h4
        · have a2' : ¬ (k : Int) ≤ 20 := of_decide_eq_false a2
          exact no (by omega)
      · have a1' : ¬ (1 : Int) ≤ (k : Int) := fun y => a1 (decide_eq_true y)
        exact ⟨_, _, rfl, fun y => absurd y Bool.false_ne_true, fun _ => no (by omega)⟩
end
end FW

namespace FW
open PySem PySem.Spec PyProof.Rows L2
open Su183 (Abs Frac)
open FL (WF Pl)
/-- behind a search of rounds what is new is new -/
theorem SameX.fr {fd : Addr} {H H' : Hp} (s : SameX fd H H') (h : H' fd ≠ none) {p : Addr} (hp : H' p = none) : H p = none := by
  cases e : H p with
  | none => rfl
  | some o =>
    by_cases z : p = fd
    · rw [z] at hp
      exact absurd hp h
    · rw [s _ _ e z] at hp
      cases hp
structure After (A : Ad) (d : Addr) (g : Abs) (H H' : Hp) : Prop where
  dk : Dk A H' d (some g)
  lt : SameLT H H'
  fr : ∀ p, H' p = none → H p = none
theorem DkL.after {A : Ad} {H H' : Hp} {d dx a lp fd : Addr} {g : Abs} (h : DkL A H d dx a lp fd g) (l : LnD A H' a lp fd g) (s : SameX fd H H') : After A d g H H' := by
  obtain ⟨q, lt⟩ := h.cut l s
  obtain ⟨_, kvs, hk, _⟩ := l
  exact ⟨q.some, lt, fun p hp => s.fr (by rw [hk]; exact fun z => nomatch z) hp⟩
theorem After.trans {A : Ad} {d : Addr} {g : Abs} {H H1 H2 : Hp} (a : After A d g H H1) (b : After A d g H1 H2) : After A d g H H2 := ⟨b.dk, a.lt.trans b.lt, fun p hp => a.fr p (b.fr p hp)⟩
theorem After.same {A : Ad} {d : Addr} {g : Abs} {H H1 H2 : Hp} (a : After A d g H H1) (s : Same H1 H2) : After A d g H H2 := ⟨a.dk.same s, a.lt.trans (.of s), fun p hp => a.fr p (s.free hp)⟩
theorem After.refl {A : Ad} {d : Addr} {g : Abs} {H : Hp} (h : Dk A H d (some g)) : After A d g H H := ⟨h, .of (Same.refl _), fun _ h => h⟩
section
variable {P : Program} {w : World} {K : PySem.W.Frag} {mg : Str → Option Value} {base : Heap} {A : Ad}

/-! ## has, which -/
def spDHas (A : Ad) : Sp := fun vs H Q E => ∃ (d : Addr) (g : Abs) (k : Nat), vs = [.ref d, .int (k : Int)] ∧ Dk A H d (some g) ∧ Goes A d H g (.has k) Q E
theorem sc_d_has : FnScope ["self", "k"] ["self", "k"] (defScope s_d_has) := ⟨rfl, rfl, rfl, by decide +kernel, rfl, by decide +kernel, by decide +kernel⟩
theorem okSteps_iff {k : Nat} : Su183.okSteps k = true ↔ 0 < k ∧ k ≤ 6 := by
  unfold Su183.okSteps Su183.STEPS
  rw [Bool.and_eq_true, decide_eq_true_iff, decide_eq_true_iff]
theorem ok_d_has (T : Txt K mg A) : FnOk P w K mg base (L2.CX P w) 8 A.d_has.a A.d_has.d ["self", "k"] (spDHas A) := by
  refine T.d_has.fn.okX sc_d_has (fun vs H Q E h => ?_) (fun cdv B outer s H vs Q E hr h => ?_)
  · obtain ⟨d, g, k, rfl, _⟩ := h
    rfl
  · obtain ⟨d, g, k, rfl, dk, go⟩ := h
    refine ⟨_, pss_cons (ps_expr (pe_call (ok_want_steps T) (hr.mono (by decide)) (by rfl) T.want_steps.mg T.want_steps.fn.kp T.want_steps.b .nil (passes_call (takes_of rfl rfl rfl rfl) fun _ _ _ _ h => h) (pa_cons (pv 1) pa_nil)))
      (pss_one (ps_ret (pe_lst (pa_cons (pe_callTy call_int1 (by rfl) T.b_int (by decide +kernel) (pa_cons
        (pe_call (ok_has_round T) hr (by rfl) T.has_round.mg T.has_round.fn.kp T.has_round.b .nil pass0 (pa_cons (pe_meth0 (pv 0) T.clD T.d_line.m (ok_d_line T) (hr.mono (by decide)) T.d_line.b .nil (passes_call (takes_of rfl rfl rfl rfl) fun _ _ _ _ h => h)) (pa_cons (pv 1) pa_nil))) pa_nil)) pa_nil)))), ?_⟩
    have ed : Su183.does g (.has k) = if Su183.okSteps k = false then (g, Su183.no (-22)) else (g, Su183.num (Su183.bit (g.has k)) []) := rfl
    refine ⟨_, rfl, k, rfl, fun z => ?_, fun z => ?_⟩
    · have e : Su183.does g (.has k) = (g, Su183.num (Su183.bit (g.has k)) []) := by rw [ed, if_neg (by rw [z]; decide)]
      have yes := go.yes e
      obtain ⟨k0, k6⟩ := okSteps_iff.mp z
      obtain ⟨dx0, a0, lp0, fd0, l0⟩ := id dk
      refine ⟨_, rfl, d, dx0, _, rfl, l0.ins, DkF_no _ (by decide +kernel), d, some g, rfl, dk, (fun z => nomatch z), fun dx a lp fd g' eg l => ?_⟩
      cases eg
      refine ⟨_, rfl, a, lp, fd, g, k, rfl, l.wf, l.lnd, k0, k6, fun H1 l1 s1 => .inr ⟨_, rfl, line_le (by show 1 ≤ 16777216; decide), fun p hp => ?_⟩⟩
      have af := (l.after l1 s1)
      have af2 := af.same (same_new (o := .lst [.int (if g.has k = true then (1 : Int) else 0)]) hp)
      refine yes p _ af2.lt af2.dk (af.fr p hp) ?_
      rw [upd_same, bit_int]
      rfl
    · have e : Su183.does g (.has k) = (g, Su183.no (-22)) := by rw [ed, if_pos z]
      exact (go.no e (by decide)).rz (.of (Same.refl _)) dk
def spDWhich (A : Ad) : Sp := fun vs H Q E => ∃ (d : Addr) (g : Abs), vs = [.ref d] ∧ Dk A H d (some g) ∧ Goes A d H g .which Q E
theorem sc_d_which : FnScope ["self", "found", "k"] ["self"] (defScope s_d_which) := ⟨rfl, rfl, rfl, by decide +kernel, rfl, by decide +kernel, by decide +kernel⟩
def whichN (g : Abs) (i : Nat) : Nat := ((List.range i).map fun i => if g.has (i + 1) = true then 2 ^ i else 0).sum
theorem whichN_succ (g : Abs) (i : Nat) : whichN g (i + 1) = whichN g i + if g.has (i + 1) = true then 2 ^ i else 0 := by
  unfold whichN
  rw [List.range_succ, List.map_append, List.sum_append]
  simp
theorem ok_d_which (T : Txt K mg A) : FnOk P w K mg base (L2.CX P w) 8 A.d_which.a A.d_which.d ["self"] (spDWhich A) := by
  refine T.d_which.fn.okX sc_d_which (fun vs H Q E h => ?_) (fun cdv B outer s H vs Q E hr h => ?_)
  · obtain ⟨d, g, rfl, _⟩ := h
    rfl
  · obtain ⟨d, g, rfl, dk, go⟩ := h
    obtain ⟨t1, c1⟩ := T.c_MOST_STEPS
    refine ⟨_, pss_cons (ps_set (i := 1) sc_d_which.nd rfl (.inl rfl) pe_int)
      (pss_cons (ps_for (passes_of rfl) rfl (pi_range2 (by rfl) T.b_range (pa_cons pe_int (pa_cons (pe_op op_add (pe_glob (v := .int 6) (by rfl) c1 ⟨_, rfl⟩) pe_int) pa_nil))) (pg_name (i := 2) sc_d_which.nd rfl (.inl rfl))
        (pss_one (ps_if (pt_val (pe_call (ok_has_round T) hr (by rfl) T.has_round.mg T.has_round.fn.kp T.has_round.b .nil pass0 (pa_cons (pe_meth0 (pv 0) T.clD T.d_line.m (ok_d_line T) (hr.mono (by decide)) T.d_line.b .nil (passes_call (takes_of rfl rfl rfl rfl) fun _ _ _ _ h => h)) (pa_cons (pv 2) pa_nil))))
          (pss_one (ps_set (i := 1) sc_d_which.nd rfl (.inl rfl) (pe_op op_add (pv 1) (pe_op op_shl pe_int (pe_op op_sub (pv 2) pe_int))))) pss_nil)))
      (pss_one (ps_ret (pe_lst (pa_cons (pv 1) pa_nil))))), ?_⟩
    have yes := go.yes (n := whichN g 6) (l := []) (g' := g) rfl
    refine ⟨_, _, rfl, rfl, _, _, rfl, ⟨by decide, by decide, by decide, by decide⟩, ?_⟩
    have en : ((6 : Int) + 1 - 1).toNat = 6 := by decide
    rw [en]
    refine for_range (lo := 1) (n := 6) (fun i σ H' => ∃ v2, σ = [some (.ref d), some (.int (whichN g i : Int)), v2] ∧ After A d g H H') ⟨none, rfl, After.refl dk⟩ ?_ ?_
    · rintro i σ H' hi ⟨v2, rfl, af⟩
      have e0 : (1 : Int) + (i : Int) = ((i + 1 : Nat) : Int) := by omega
      rw [e0]
      have dk1 := af.dk
      obtain ⟨dx0, a0, lp0, fd0, l0⟩ := id dk1
      refine ⟨_, rfl, d, dx0, _, rfl, l0.ins, DkF_no _ (by decide +kernel), d, some g, rfl, dk1, (fun z => nomatch z), fun dx a lp fd g' eg l => ?_⟩
      cases eg
      refine ⟨_, rfl, a, lp, fd, g, i + 1, rfl, l.wf, l.lnd, by omega, by omega, fun H1 l1 s1 => ⟨_, rfl, ?_⟩⟩
      have af1 := af.trans (l.after l1 s1)
      have ws := whichN_succ g i
      refine ite2 (fun z => ?_) (fun z => ?_)
      · have z' : g.has (i + 1) = true := z
        rw [if_pos z'] at ws
        refine ⟨_, rfl, _, rfl, _, _, rfl, rfl, 1, (i : Int), rfl, (show V.int (((i + 1 : Nat) : Int) - 1) = V.int (i : Int) by rw [show ((i + 1 : Nat) : Int) - 1 = (i : Int) by omega]), ⟨by omega, by omega, by decide⟩, _, _, rfl, rfl, some (.int ((i + 1 : Nat) : Int)), ?_, af1⟩
        have e2 : ((whichN g i : Int) + 1 * 2 ^ i) = ((whichN g i + 2 ^ i : Nat) : Int) := by
          rw [Int.one_mul]
          push_cast
          rfl
        rw [ws, ← e2]
        rfl
      · have z' : ¬ g.has (i + 1) = true := z
        rw [if_neg z'] at ws
        refine ⟨some (.int ((i + 1 : Nat) : Int)), ?_, af1⟩
        rw [ws]
        rfl
    · rintro σ H' ⟨v2, rfl, af⟩
      refine ⟨_, rfl, line_le (by show 1 ≤ 16777216; decide), fun p hp => ?_⟩
      have af2 := af.same (same_new (o := .lst [.int (whichN g 6 : Int)]) hp)
      exact yes p _ af2.lt af2.dk (af.fr p hp) upd_same
end
end FW

namespace FW
open PySem PySem.Spec PyProof.Rows L2
open Su183 (Abs Frac)
open FL (WF Pl)
theorem After.rz {A : Ad} {d : Addr} {g : Abs} {H H1 : Hp} {r : Int} {E : XK} (h : Rais A d H (some g) r E) (a : After A d g H H1) : Rz A E r H1 := h.rz a.lt a.dk
theorem endless_eq {g : Abs} (h : WF g) {k : Nat} (k0 : 0 < k) : g.endless k = FL.endl g k := by
  have q := FL.endless_iff h k0
  cases e : FL.endl g k with
  | true => exact q.mpr e
  | false =>
    cases e2 : g.endless k with
    | false => rfl
    | true => rw [e] at q; exact absurd (q.mp e2) (by decide)
section
variable {P : Program} {w : World} {K : PySem.W.Frag} {mg : Str → Option Value} {base : Heap} {A : Ad}

/-! ## rounds_of, rounds, round_at -/
/-- what is refused ahead of a look at rounds -/
structure NoRounds (A : Ad) (d : Addr) (g : Abs) (k : Nat) (H : Hp) (E : XK) : Prop where
  steps : Su183.okSteps k = false → Rz A E (-22) H
  endless : Su183.okSteps k = true → g.endless k = true → ∀ H1, After A d g H H1 → Rz A E (-75) H1
def spRoundsOf (A : Ad) : Sp := fun vs H Q E => ∃ (d : Addr) (g : Abs) (k : Nat), vs = [.ref d, .int (k : Int)] ∧ Dk A H d (some g) ∧ NoRounds A d g k H E ∧
  (0 < k → k ≤ 6 → Su183.okSteps k = true → WF g → FL.endl g k = false → ∀ v H', After A d g H H' → CacheAt H' v g k → Q v H')
theorem sc_d_rounds_of : FnScope ["self", "k", "line"] ["self", "k"] (defScope s_d_rounds_of) := ⟨rfl, rfl, rfl, by decide +kernel, rfl, by decide +kernel, by decide +kernel⟩
theorem ok_d_rounds_of (T : Txt K mg A) : FnOk P w K mg base (L2.CX P w) 7 A.d_rounds_of.a A.d_rounds_of.d ["self", "k"] (spRoundsOf A) := by
  refine T.d_rounds_of.fn.okX sc_d_rounds_of (fun vs H Q E h => ?_) (fun cdv B outer s H vs Q E hr h => ?_)
  · obtain ⟨d, g, k, rfl, _⟩ := h
    rfl
  · obtain ⟨d, g, k, rfl, dk, no, kS⟩ := h
    obtain ⟨t1, c1⟩ := T.c_ENDLESS
    refine ⟨_, pss_cons (ps_set (i := 2) sc_d_rounds_of.nd rfl (.inl rfl) (pe_meth0 (pv 0) T.clD T.d_line.m (ok_d_line T) (hr.mono (by decide)) T.d_line.b .nil (passes_call (takes_of rfl rfl rfl rfl) fun _ _ _ _ h => h)))
      (pss_cons (ps_expr (pe_call (ok_want_steps T) (hr.mono (by decide)) (by rfl) T.want_steps.mg T.want_steps.fn.kp T.want_steps.b .nil (passes_call (takes_of rfl rfl rfl rfl) fun _ _ _ _ h => h) (pa_cons (pv 1) pa_nil)))
      (pss_cons (ps_expr (pe_call (ok_want T) (hr.mono (by decide)) (by rfl) T.want.mg T.want.fn.kp T.want.b .nil (passes_call (takes_of rfl rfl rfl rfl) fun _ _ _ _ h => h)
        (pa_cons (pe_not (pe_call (ok_is_endless T) (hr.mono (by decide)) (by rfl) T.is_endless.mg T.is_endless.fn.kp T.is_endless.b .nil pass0 (pa_cons (pv 2) (pa_cons (pv 1) pa_nil)))) (pa_cons (pe_glob (v := .int (-75)) (by rfl) c1 ⟨_, rfl⟩) pa_nil))))
      (pss_one (ps_ret (pe_call (ok_all_rounds T) hr (by rfl) T.all_rounds.mg T.all_rounds.fn.kp T.all_rounds.b .nil pass0 (pa_cons (pv 2) (pa_cons (pv 1) pa_nil))))))), ?_⟩
    obtain ⟨dx0, a0, lp0, fd0, l0⟩ := id dk
    refine ⟨_, rfl, d, dx0, _, rfl, l0.ins, DkF_no _ (by decide +kernel), d, some g, rfl, dk, (fun z => nomatch z), fun dx a lp fd g' eg l => ?_⟩
    cases eg
    have wf := l.wf
    refine ⟨_, rfl, k, rfl, fun z => ?_, fun z => no.steps z⟩
    obtain ⟨k0, k6⟩ := okSteps_iff.mp z
    refine ⟨_, rfl, _, rfl, a, lp, fd, g, k, rfl, wf, l.lnd.ln, fun H1 s1 => ⟨_, rfl, _, _, rfl, fun y => ?_, fun y => ?_⟩⟩
    · have ne : FL.endl g k = false := by
        cases e : FL.endl g k with
        | false => rfl
        | true => rw [e] at y; cases y
      refine ⟨_, rfl, _, rfl, a, lp, fd, g, k, rfl, wf, l.lnd.same s1, k0, k6, ne, fun v H2 l2 s2 c => ?_⟩
      exact kS k0 k6 z wf ne v H2 (l.after l2 ((SameX.of s1).trans s2)) c
    · have ne : FL.endl g k = true := by
        cases e : FL.endl g k with
        | true => rfl
        | false => rw [e] at y; cases y
      exact no.endless z (by rw [endless_eq wf k0]; exact ne) H1 ((After.refl l.some).same s1)
theorem IsR.rounds {g : Abs} {k : Nat} {ys : List FL.Rd} (h : IsR g k ys) (wf : WF g) (k0 : 0 < k) (k6 : k ≤ 6) (ne : FL.endl g k = false) : ys.map FL.fr = g.rounds k := FL.rounds_eq wf k0 k6 ne h.perm h.ord
def spDRounds (A : Ad) : Sp := fun vs H Q E => ∃ (d : Addr) (g : Abs) (k : Nat), vs = [.ref d, .int (k : Int)] ∧ Dk A H d (some g) ∧ Goes A d H g (.rounds k) Q E
theorem sc_d_rounds : FnScope ["self", "k"] ["self", "k"] (defScope s_d_rounds) := ⟨rfl, rfl, rfl, by decide +kernel, rfl, by decide +kernel, by decide +kernel⟩
theorem ok_d_rounds (T : Txt K mg A) : FnOk P w K mg base (L2.CX P w) 8 A.d_rounds.a A.d_rounds.d ["self", "k"] (spDRounds A) := by
  refine T.d_rounds.fn.okX sc_d_rounds (fun vs H Q E h => ?_) (fun cdv B outer s H vs Q E hr h => ?_)
  · obtain ⟨d, g, k, rfl, _⟩ := h
    rfl
  · obtain ⟨d, g, k, rfl, dk, go⟩ := h
    refine ⟨_, pss_one (ps_ret (pe_lst (pa_cons (pe_callB call_len_seq (by rfl) T.b_len PySem.boot_len (pa_cons
      (pe_meth (pv 0) T.clD T.d_rounds_of.m (ok_d_rounds_of T) hr T.d_rounds_of.b .nil (passes_call (takes_of rfl rfl rfl rfl) fun _ _ _ _ h => h) (pa_cons (pv 1) pa_nil)) pa_nil)) pa_nil))), ?_⟩
    have ed : Su183.does g (.rounds k) = if Su183.okSteps k = false then (g, Su183.no (-22)) else if g.endless k = true then (g, Su183.no (-75)) else (g, Su183.num (g.rounds k).length []) := rfl
    obtain ⟨dx0, a0, lp0, fd0, l0⟩ := id dk
    refine ⟨_, rfl, d, dx0, _, rfl, l0.ins, DkF_no _ (by decide +kernel), _, rfl, d, g, k, rfl, dk, ⟨fun z => ?_, fun z y H1 af => ?_⟩, fun k0 k6 z wf ne v H1 af c => ?_⟩
    · have e : Su183.does g (.rounds k) = (g, Su183.no (-22)) := by rw [ed, if_pos z]
      exact (go.no e (by decide)).rz (.of (Same.refl _)) dk
    · have e : Su183.does g (.rounds k) = (g, Su183.no (-75)) := by rw [ed, if_neg (by rw [z]; decide), if_pos y]
      exact af.rz (go.no e (by decide))
    · have e : Su183.does g (.rounds k) = (g, Su183.num (g.rounds k).length []) := by rw [ed, if_neg (by rw [z]; decide), if_neg (by rw [endless_eq wf k0, ne]; decide)]
      have yes := go.yes e
      obtain ⟨r, rs, ys, rfl, h1, h2, h3⟩ := c
      have er := h3.rounds wf k0 k6 ne
      have lr := Paired.length h2
      refine ⟨r, _, rfl, .inl (SqL.of h1), line_le (by show 1 ≤ 16777216; decide), fun p hp => ?_⟩
      have af2 := af.same (same_new (o := .lst [.int (rs.length : Int)]) hp)
      refine yes p _ af2.lt af2.dk (af.fr p hp) ?_
      rw [upd_same, ← er, List.length_map, lr]
      rfl
def spRoundAt (A : Ad) : Sp := fun vs H Q E => ∃ (d : Addr) (g : Abs) (k j : Nat), vs = [.ref d, .int (k : Int), .int (j : Int)] ∧ Dk A H d (some g) ∧ NoRounds A d g k H E ∧
  (0 < k → Su183.okSteps k = true → g.endless k = false → (g.rounds k)[j]? = none → ∀ H1, After A d g H H1 → Rz A E (-33) H1) ∧
  (0 < k → k ≤ 6 → Su183.okSteps k = true → WF g → g.endless k = false → ∀ r, FL.Rnd g k r → (g.rounds k)[j]? = some (FL.fr r) → ∀ v H', After A d g H H' → RdAt H' v r → Q v H')
theorem sc_d_round_at : FnScope ["self", "k", "j", "found"] ["self", "k", "j"] (defScope s_d_round_at) := ⟨rfl, rfl, rfl, by decide +kernel, rfl, by decide +kernel, by decide +kernel⟩
theorem ok_d_round_at (T : Txt K mg A) : FnOk P w K mg base (L2.CX P w) 8 A.d_round_at.a A.d_round_at.d ["self", "k", "j"] (spRoundAt A) := by
  refine T.d_round_at.fn.okX sc_d_round_at (fun vs H Q E h => ?_) (fun cdv B outer s H vs Q E hr h => ?_)
  · obtain ⟨d, g, k, j, rfl, _⟩ := h
    rfl
  · obtain ⟨d, g, k, j, rfl, dk, no, kN, kS⟩ := h
    obtain ⟨t1, c1⟩ := T.c_NO_MORE
    refine ⟨_, pss_cons (ps_set (i := 3) sc_d_round_at.nd rfl (.inl rfl) (pe_meth (pv 0) T.clD T.d_rounds_of.m (ok_d_rounds_of T) hr T.d_rounds_of.b .nil (passes_call (takes_of rfl rfl rfl rfl) fun _ _ _ _ h => h) (pa_cons (pv 1) pa_nil)))
      (pss_cons (ps_expr (pe_call (ok_want T) (hr.mono (by decide)) (by rfl) T.want.mg T.want.fn.kp T.want.b .nil (passes_call (takes_of rfl rfl rfl rfl) fun _ _ _ _ h => h)
        (pa_cons (pe_cmpR op_lt (pv 2) (pe_callB call_len_seq (by rfl) T.b_len PySem.boot_len (pa_cons (pv 3) pa_nil)) (nomark _)) (pa_cons (pe_glob (v := .int (-33)) (by rfl) c1 ⟨_, rfl⟩) pa_nil))))
      (pss_one (ps_ret (pe_ix ix_list (pv 3) (pv 2) (fun _ _ => rfl))))), ?_⟩
    obtain ⟨dx0, a0, lp0, fd0, l0⟩ := id dk
    refine ⟨_, rfl, d, dx0, _, rfl, l0.ins, DkF_no _ (by decide +kernel), _, rfl, d, g, k, rfl, dk, no, fun k0 k6 z wf ne v H1 af c => ?_⟩
    obtain ⟨r, rs, ys, rfl, h1, h2, h3⟩ := c
    have er := h3.rounds wf k0 k6 ne
    have lr := Paired.length h2
    have ne2 : g.endless k = false := by rw [endless_eq wf k0]; exact ne
    refine ⟨_, rfl, _, rfl, r, _, rfl, .inl (SqL.of h1), _, _, rfl, rfl, _, _, rfl, fun y => ?_, fun y => ?_⟩
    · have y' : (j : Int) < (rs.length : Int) := of_decide_eq_true y
      have hj : j < rs.length := by omega
      have hv : rs[j]? = some rs[j] := List.getElem?_eq_getElem hj
      obtain ⟨q, eq, rq⟩ := paired_get h2 hv
      refine ⟨_, rfl, _, rfl, r, _, _, _, rfl, rfl, SqL.of h1, atI_nat (j := j) hv, ?_⟩
      have hq := FL.rnd_of wf k0 ne (h3.perm.mem_iff.mp (List.mem_of_getElem? eq))
      refine kS k0 k6 z wf ne2 q hq ?_ _ H1 af rq
      rw [← er, List.getElem?_map, eq]
      rfl
    · have y' : ¬ (j : Int) < (rs.length : Int) := of_decide_eq_false y
      refine kN k0 z ne2 ?_ H1 af
      rw [← er, List.getElem?_eq_none_iff, List.length_map]
      omega
end
end FW

namespace FW
open PySem PySem.Spec PyProof.Rows L2
open Su183 (Abs Frac)
open FL (WF Pl)
section
variable {P : Program} {w : World} {K : PySem.W.Frag} {mg : Str → Option Value} {base : Heap} {A : Ad}

/-! ## round, type_of -/
def spDRound (A : Ad) : Sp := fun vs H Q E => ∃ (d : Addr) (g : Abs) (k j : Nat), vs = [.ref d, .int (k : Int), .int (j : Int)] ∧ Dk A H d (some g) ∧ Goes A d H g (.round k j) Q E
theorem sc_d_round : FnScope ["self", "k", "j", "places", "below", "found", "above"] ["self", "k", "j"] (defScope s_d_round) := ⟨rfl, rfl, rfl, by decide +kernel, rfl, by decide +kernel, by decide +kernel⟩
theorem frs_len (l : List Int) (B : Nat) : (l.flatMap fun a => Su183.ofFrac (Su183.red a B)).length = 2 * l.length := by
  induction l with
  | nil => rfl
  | cons x l ih =>
    rw [List.flatMap_cons, List.length_append, ih, List.length_cons]
    show 2 + _ = _
    omega
theorem ok_d_round (T : Txt K mg A) : FnOk P w K mg base (L2.CX P w) 9 A.d_round.a A.d_round.d ["self", "k", "j"] (spDRound A) := by
  refine T.d_round.fn.okX sc_d_round (fun vs H Q E h => ?_) (fun cdv Bo outer s H vs Q E hr h => ?_)
  · obtain ⟨d, g, k, j, rfl, _⟩ := h
    rfl
  · obtain ⟨d, g, k, j, rfl, dk, go⟩ := h
    refine ⟨_, pss_cons (ps_asg (pe_meth (pv 0) T.clD T.d_round_at.m (ok_d_round_at T) hr T.d_round_at.b .nil (passes_call (takes_of rfl rfl rfl rfl) fun _ _ _ _ h => h) (pa_cons (pv 1) (pa_cons (pv 2) pa_nil)))
        (pg_tup (by rfl) (pgs_cons (pg_name (i := 3) sc_d_round.nd rfl (.inl rfl)) (pgs_cons (pg_name (i := 4) sc_d_round.nd rfl (.inl rfl)) pgs_nil))))
      (pss_cons (ps_set (i := 5) sc_d_round.nd rfl (.inl rfl) (pe_lst (pa_cons (pv 1) pa_nil)))
      (pss_cons (ps_for (passes_of rfl) rfl (pi_list (pv 3)) (pg_name (i := 6) sc_d_round.nd rfl (.inl rfl))
        (pss_one (ps_expr (pe_bm PySem.F.plainAttrs_list PySem.F.slot_list_extend PySem.F.type_list_extend mt_extend (pv 5) (pa_cons (pe_callTy call_list_of (by rfl) T.b_list (by decide +kernel) (pa_cons
          (pe_call (ok_fraction T) (hr.mono (by decide)) (by rfl) T.fraction.mg T.fraction.fn.kp T.fraction.b .nil pass0 (pa_cons (pv 6) (pa_cons (pv 4) pa_nil))) pa_nil)) pa_nil)))))
      (pss_one (ps_ret (pv 5))))), ?_⟩
    have ed : Su183.does g (.round k j) = if Su183.okSteps k = false then (g, Su183.no (-22)) else if g.endless k = true then (g, Su183.no (-75)) else match (g.rounds k)[j]? with
      | some x => (g, Su183.num k ((g.way x k).flatMap Su183.ofFrac))
      | none => (g, Su183.no (-33)) := rfl
    obtain ⟨dx0, a0, lp0, fd0, l0⟩ := id dk
    refine ⟨_, rfl, d, dx0, _, rfl, l0.ins, DkF_no _ (by decide +kernel), _, rfl, _, rfl, d, g, k, j, rfl, dk, ⟨fun z => ?_, fun z y H1 af => ?_⟩, fun k0 z y ej H1 af => ?_, fun k0 k6 z wf y r hr0 ej v H1 af rd => ?_⟩
    · have e : Su183.does g (.round k j) = (g, Su183.no (-22)) := by rw [ed, if_pos z]
      exact (go.no e (by decide)).rz (.of (Same.refl _)) dk
    · have e : Su183.does g (.round k j) = (g, Su183.no (-75)) := by rw [ed, if_neg (by rw [z]; decide), if_pos y]
      exact af.rz (go.no e (by decide))
    · have e : Su183.does g (.round k j) = (g, Su183.no (-33)) := by rw [ed, if_neg (by rw [z]; decide), if_neg (by rw [y]; decide), ej]
      exact af.rz (go.no e (by decide))
    · have e : Su183.does g (.round k j) = (g, Su183.num k ((g.way (FL.fr r) k).flatMap Su183.ofFrac)) := by rw [ed, if_neg (by rw [z]; decide), if_neg (by rw [y]; decide), ej]
      have yes := go.yes e
      obtain ⟨X, Bw, b0, b1, er, hX, _⟩ := id hr0
      have ew := FL.rnd_way k0 hr0
      have e1 : r.1 = (List.range k).map (FL.it g Bw X) := by rw [er]
      have e2 : r.2 = (Bw : Int) := by rw [er]
      have lr1 : r.1.length = k := by rw [e1, List.length_map, List.length_range]
      have eB : r.2.toNat = Bw := by rw [e2]; rfl
      rw [ew, eB, List.flatMap_map] at yes
      have p6 : 6 ^ k ≤ 6 ^ 6 := Nat.pow_le_pow_right (by decide) k6
      have e6 : 6 ^ 6 = 46656 := by decide
      obtain ⟨t, q, rfl, h1, h2⟩ := rd
      refine ⟨t, _, rfl, SqT.of h1, rfl, _, _, rfl, _, _, rfl, rfl, ?_⟩
      refine ⟨_, rfl, line_le (by show 1 ≤ 16777216; decide), fun D hD => ?_⟩
      have s2 := same_new (o := .lst [.int (k : Int)]) hD
      refine ⟨_, rfl, q, rfl, ⟨_, SqL.of (s2 _ _ h2)⟩, for_list (K := K) (a := q) (xs := intV r.1) (fun i σ H' => ∃ v6, σ = [some (.ref d), some (.int (k : Int)), some (.int (j : Int)), some (.ref q), some (.int (Bw : Int)), some (.ref D), v6] ∧ SameX D H1 H' ∧ H' D = some (.lst (intV ((k : Int) :: (r.1.take i).flatMap fun a => Su183.ofFrac (Su183.red a Bw)))))
        ⟨none, by rw [← e2]; rfl, SameX.of s2, upd_same⟩ (fun i σ H' _ ⟨_, _, s3, _⟩ => SqL.of (s3 _ _ h2 (fun z => by rw [z, hD] at h2; cases h2))) ?_ ?_⟩
      · rintro i v σ H' hv ⟨v6, rfl, s3, h3⟩
        obtain ⟨u, eu, rfl⟩ := intV_get hv
        have hi : i < r.1.length := (List.getElem?_eq_some_iff.mp eu).1
        have hu : u = FL.it g Bw X i := by
          rw [e1, List.getElem?_map] at eu
          obtain ⟨_, ea, eb⟩ := Option.map_eq_some_iff.mp eu
          rw [List.getElem?_eq_some_iff] at ea
          obtain ⟨_, ea⟩ := ea
          rw [List.getElem_range] at ea
          rw [← eb, ea]
        have u0 : 0 ≤ u := by
          rw [hu]
          exact (FL.it_in wf (by omega) hX i).1
        have eun : ((u.toNat : Nat) : Int) = u := Int.toNat_of_nonneg u0
        refine ⟨_, rfl, .inl ⟨rfl, _, SqL.of h3⟩, _, rfl, _, rfl, u.toNat, Bw, by rw [eun]; rfl, b0, by omega, fun t2 H2 s4 nt2 ht2 => ?_⟩
        rw [eun] at ht2
        refine ⟨t2, _, rfl, .inr (SqT.of ht2), fun c hc => ?_⟩
        have h4 := s4 _ _ h3
        have nDc : D ≠ c := ne_of_none h4 hc
        refine ⟨D, c, _, _, rfl, rfl, by rw [upd_ne nDc]; exact h4, upd_same, line_le ?_, ?_⟩
        · rw [intV_len, List.length_cons, frs_len, List.length_take]
          show _ + 2 ≤ 16777216
          omega
        · refine ⟨some (.int u), rfl, fun b o e nb => ?_, ?_⟩
          · have := s4 _ _ (s3 b o e nb)
            rw [upd_ne nb, upd_ne (ne_of_none this hc)]
            exact this
          · rw [upd_same, List.take_add_one, eu, List.flatMap_append]
            show some (HO.lst _) = some (HO.lst (intV (((k : Int) :: ((r.1.take i).flatMap fun a => Su183.ofFrac (Su183.red a Bw))) ++ _)))
            rw [intV_append]
            rfl
      · rintro σ H' ⟨v6, rfl, s3, h3⟩
        rw [intV_len, List.take_length] at h3
        have s5 : Same H1 H' := fun b o e => s3 _ _ e (ne_of_none e hD)
        have af2 := af.same s5
        exact ⟨_, rfl, yes D H' af2.lt af2.dk (af.fr D hD) h3⟩
def spDType (A : Ad) : Sp := fun vs H Q E => ∃ (d : Addr) (g : Abs) (k j : Nat), vs = [.ref d, .int (k : Int), .int (j : Int)] ∧ Dk A H d (some g) ∧ Goes A d H g (.type k j) Q E
theorem sc_d_type_of : FnScope ["self", "k", "j", "places", "below"] ["self", "k", "j"] (defScope s_d_type_of) := ⟨rfl, rfl, rfl, by decide +kernel, rfl, by decide +kernel, by decide +kernel⟩
theorem ranksL_type {g : Abs} {k : Nat} {r : FL.Rd} (k0 : 0 < k) (h : FL.Rnd g k r) : ranksL r.1 = Su183.ints (g.type (FL.fr r) k) := by
  rw [FL.rnd_type k0 h]
  unfold ranksL Su183.ints
  rw [List.map_map]
  rfl
theorem ok_d_type_of (T : Txt K mg A) : FnOk P w K mg base (L2.CX P w) 9 A.d_type_of.a A.d_type_of.d ["self", "k", "j"] (spDType A) := by
  refine T.d_type_of.fn.okX sc_d_type_of (fun vs H Q E h => ?_) (fun cdv Bo outer s H vs Q E hr h => ?_)
  · obtain ⟨d, g, k, j, rfl, _⟩ := h
    rfl
  · obtain ⟨d, g, k, j, rfl, dk, go⟩ := h
    refine ⟨_, pss_cons (ps_asg (pe_meth (pv 0) T.clD T.d_round_at.m (ok_d_round_at T) hr T.d_round_at.b .nil (passes_call (takes_of rfl rfl rfl rfl) fun _ _ _ _ h => h) (pa_cons (pv 1) (pa_cons (pv 2) pa_nil)))
        (pg_tup (by rfl) (pgs_cons (pg_name (i := 3) sc_d_type_of.nd rfl (.inl rfl)) (pgs_cons (pg_name (i := 4) sc_d_type_of.nd rfl (.inl rfl)) pgs_nil))))
      (pss_one (ps_ret (pe_op op_cat (pe_lst (pa_cons (pv 1) pa_nil)) (pe_call (ok_ranks_of T) (hr.mono (by decide)) (by rfl) T.ranks_of.mg T.ranks_of.fn.kp T.ranks_of.b .nil pass0 (pa_cons (pv 3) pa_nil))))), ?_⟩
    have ed : Su183.does g (.type k j) = if Su183.okSteps k = false then (g, Su183.no (-22)) else if g.endless k = true then (g, Su183.no (-75)) else match (g.rounds k)[j]? with
      | some x => (g, Su183.num k (Su183.ints (g.type x k)))
      | none => (g, Su183.no (-33)) := rfl
    obtain ⟨dx0, a0, lp0, fd0, l0⟩ := id dk
    refine ⟨_, rfl, d, dx0, _, rfl, l0.ins, DkF_no _ (by decide +kernel), _, rfl, _, rfl, d, g, k, j, rfl, dk, ⟨fun z => ?_, fun z y H1 af => ?_⟩, fun k0 z y ej H1 af => ?_, fun k0 k6 z wf y r hr0 ej v H1 af rd => ?_⟩
    · have e : Su183.does g (.type k j) = (g, Su183.no (-22)) := by rw [ed, if_pos z]
      exact (go.no e (by decide)).rz (.of (Same.refl _)) dk
    · have e : Su183.does g (.type k j) = (g, Su183.no (-75)) := by rw [ed, if_neg (by rw [z]; decide), if_pos y]
      exact af.rz (go.no e (by decide))
    · have e : Su183.does g (.type k j) = (g, Su183.no (-33)) := by rw [ed, if_neg (by rw [z]; decide), if_neg (by rw [y]; decide), ej]
      exact af.rz (go.no e (by decide))
    · have e : Su183.does g (.type k j) = (g, Su183.num k (Su183.ints (g.type (FL.fr r) k))) := by rw [ed, if_neg (by rw [z]; decide), if_neg (by rw [y]; decide), ej]
      have yes := go.yes e
      rw [← ranksL_type k0 hr0] at yes
      obtain ⟨X, Bw, b0, b1, er, hX, _⟩ := id hr0
      have lr1 : r.1.length = k := by rw [er, List.length_map, List.length_range]
      obtain ⟨t, q, rfl, h1, h2⟩ := rd
      refine ⟨t, _, rfl, SqT.of h1, rfl, _, _, rfl, _, _, rfl, rfl, ?_⟩
      refine ⟨_, rfl, line_le (by show 1 ≤ 16777216; decide), fun p0 hp0 => ?_⟩
      have s0 := same_new (o := .lst [.int (k : Int)]) hp0
      refine ⟨_, rfl, q, r.1, rfl, s0 _ _ h2, by omega, fun p1 H2 s1 np1 hp1 => ?_⟩
      refine ⟨p0, p1, _, _, rfl, rfl, s1 _ _ upd_same, hp1, line_le ?_, fun p hp => ?_⟩
      · rw [intV_len]
        unfold ranksL
        rw [List.length_map]
        show 1 + _ ≤ 16777216
        omega
      · have s2 := (s0.trans s1).trans (same_new (o := .lst ([.int (k : Int)] ++ intV (ranksL r.1))) hp)
        have af2 := af.same s2
        refine yes p _ af2.lt af2.dk (af.fr p ((s0.trans s1).free hp)) ?_
        rw [upd_same]
        rfl
end
end FW

namespace FW
open PySem PySem.Spec PyProof.Rows L2
open Su183 (Abs Frac)
open FL (WF Pl)
theorem cF {i j : Int} {A B : Prop} (h : ¬ i = j) (b : B) : if decide (V.int i = V.int j) = true then A else B := by
  rw [if_neg]
  · exact b
  · intro z
    injection of_decide_eq_true z with z
    exact h z
theorem cT {i j : Int} {A B : Prop} (h : i = j) (a : A) : if decide (V.int i = V.int j) = true then A else B := by
  rw [if_pos]
  · exact a
  · rw [h]
    exact decide_eq_true rfl
section
variable {P : Program} {w : World} {K : PySem.W.Frag} {mg : Str → Option Value} {base : Heap} {A : Ad}

/-! ## of_line, of_rounds -/
inductive LC : Nat → List Nat → List Nat → Su183.Call → Prop
  | set (a b : Nat) : LC 1 [a, b] [] (.set a b)
  | row (l : List Nat) (h : l.length ≤ 1000) : LC 2 [] l (.row l)
  | put (a b : Nat) : LC 3 [a, b] [] (.put a b)
  | way (a b c : Nat) : LC 4 [a, b, c] [] (.way a b c)
  | comes (a b : Nat) : LC 5 [a, b] [] (.comes a b)
  | covers (a b : Nat) : LC 6 [a, b] [] (.covers a b)
  | slope (a : Nat) : LC 13 [a] [] (.slope a)
  | turn : LC 14 [] [] .turn
  | state : LC 15 [] [] .state
inductive RC : Nat → List Nat → Su183.Call → Prop
  | has (a : Nat) : RC 7 [a] (.has a)
  | which : RC 8 [] .which
  | rounds (a : Nat) : RC 9 [a] (.rounds a)
  | round (a b : Nat) : RC 10 [a, b] (.round a b)
  | type (a b : Nat) : RC 11 [a, b] (.type a b)
  | brings (a b : Nat) : RC 12 [a, b] (.brings a b)
def spOfLine (A : Ad) : Sp := fun vs H Q E => ∃ (d n pl : Addr) (g : Abs) (c : Nat) (ns r : List Nat) (cl : Su183.Call), vs = [.ref d, .int (c : Int), .ref n, .ref pl] ∧ Dk A H d (some g) ∧ H n = some (.lst (ptsV ns)) ∧ H pl = some (.lst (ptsV r)) ∧ LC c ns r cl ∧ Goes A d H g cl Q E
theorem sc_of_line : FnScope ["desk", "call", "n", "points"] ["desk", "call", "n", "points"] (defScope s_of_line) := ⟨rfl, rfl, rfl, by decide +kernel, rfl, by decide +kernel, by decide +kernel⟩
theorem ok_of_line (T : Txt K mg A) : FnOk P w K mg base (L2.CX P w) 7 A.of_line.a A.of_line.d ["desk", "call", "n", "points"] (spOfLine A) := by
  refine T.of_line.fn.okX sc_of_line (fun vs H Q E h => ?_) (fun cdv Bo outer s H vs Q E hr h => ?_)
  · obtain ⟨d, n, pl, g, c, ns, r, cl, rfl, _⟩ := h
    rfl
  · obtain ⟨d, n, pl, g, c, ns, r, cl, rfl, dk, hn, hpl, lc, go⟩ := h
    obtain ⟨t1, c1⟩ := T.c_ROW
    refine ⟨_, pss_cons (ps_if (pt_cmpR op_eq (pv 1) pe_int (nomark _)) (pss_one (ps_ret (pe_meth (pv 0) T.clD T.d_set_point.m (ok_d_set_point T) (hr.mono (by decide)) T.d_set_point.b .nil (passes_call (takes_of rfl rfl rfl rfl) fun _ _ _ _ h => h) (pa_cons (pe_ix ix_list (pv 2) pe_int (fun _ _ => rfl)) (pa_cons (pe_ix ix_list (pv 2) pe_int (fun _ _ => rfl)) pa_nil))))) pss_nil)
      (pss_cons (ps_if (pt_cmpR op_eq (pv 1) (pe_glob (v := .int 2) (by rfl) c1 ⟨_, rfl⟩) (nomark _)) (pss_one (ps_ret (pe_meth (pv 0) T.clD T.d_set_row.m (ok_d_set_row T) (hr.mono (by decide)) T.d_set_row.b .nil (passes_call (takes_of rfl rfl rfl rfl) fun _ _ _ _ h => h) (pa_cons (pv 3) pa_nil)))) pss_nil)
      (pss_cons (ps_if (pt_cmpR op_eq (pv 1) pe_int (nomark _)) (pss_one (ps_ret (pe_meth (pv 0) T.clD T.d_put.m (ok_d_put T) hr T.d_put.b .nil (passes_call (takes_of rfl rfl rfl rfl) fun _ _ _ _ h => h) (pa_cons (pe_ix ix_list (pv 2) pe_int (fun _ _ => rfl)) (pa_cons (pe_ix ix_list (pv 2) pe_int (fun _ _ => rfl)) pa_nil))))) pss_nil)
      (pss_cons (ps_if (pt_cmpR op_eq (pv 1) pe_int (nomark _)) (pss_one (ps_ret (pe_meth (pv 0) T.clD T.d_way.m (ok_d_way T) hr T.d_way.b .nil (passes_call (takes_of rfl rfl rfl rfl) fun _ _ _ _ h => h) (pa_cons (pe_ix ix_list (pv 2) pe_int (fun _ _ => rfl)) (pa_cons (pe_ix ix_list (pv 2) pe_int (fun _ _ => rfl)) (pa_cons (pe_ix ix_list (pv 2) pe_int (fun _ _ => rfl)) pa_nil)))))) pss_nil)
      (pss_cons (ps_if (pt_cmpR op_eq (pv 1) pe_int (nomark _)) (pss_one (ps_ret (pe_meth (pv 0) T.clD T.d_comes.m (ok_d_comes T) hr T.d_comes.b .nil (passes_call (takes_of rfl rfl rfl rfl) fun _ _ _ _ h => h) (pa_cons (pe_ix ix_list (pv 2) pe_int (fun _ _ => rfl)) (pa_cons (pe_ix ix_list (pv 2) pe_int (fun _ _ => rfl)) pa_nil))))) pss_nil)
      (pss_cons (ps_if (pt_cmpR op_eq (pv 1) pe_int (nomark _)) (pss_one (ps_ret (pe_meth (pv 0) T.clD T.d_covers.m (ok_d_covers T) hr T.d_covers.b .nil (passes_call (takes_of rfl rfl rfl rfl) fun _ _ _ _ h => h) (pa_cons (pe_ix ix_list (pv 2) pe_int (fun _ _ => rfl)) (pa_cons (pe_ix ix_list (pv 2) pe_int (fun _ _ => rfl)) pa_nil))))) pss_nil)
      (pss_cons (ps_if (pt_cmpR op_eq (pv 1) pe_int (nomark _)) (pss_one (ps_ret (pe_meth (pv 0) T.clD T.d_slope.m (ok_d_slope T) hr T.d_slope.b .nil (passes_call (takes_of rfl rfl rfl rfl) fun _ _ _ _ h => h) (pa_cons (pe_ix ix_list (pv 2) pe_int (fun _ _ => rfl)) pa_nil)))) pss_nil)
      (pss_cons (ps_if (pt_cmpR op_eq (pv 1) pe_int (nomark _)) (pss_one (ps_ret (pe_meth0 (pv 0) T.clD T.d_turn.m (ok_d_turn T) (hr.mono (by decide)) T.d_turn.b .nil (passes_call (takes_of rfl rfl rfl rfl) fun _ _ _ _ h => h)))) pss_nil)
      (pss_one (ps_ret (pe_meth0 (pv 0) T.clD T.d_state.m (ok_d_state T) (hr.mono (by decide)) T.d_state.b .nil (passes_call (takes_of rfl rfl rfl rfl) fun _ _ _ _ h => h))))))))))), ?_⟩
    obtain ⟨dx0, a0, lp0, fd0, l0⟩ := id dk
    cases lc with
    | set a b =>
      refine ⟨_, rfl, rfl, _, rfl, cT rfl ?_⟩
      exact ⟨_, rfl, d, dx0, _, rfl, l0.ins, DkF_no _ (by decide +kernel), _, rfl, n, _, _, _, rfl, rfl, SqL.of hn, atI_nat (j := 0) rfl, _, rfl, n, _, _, _, rfl, rfl, SqL.of hn, atI_nat (j := 1) rfl, d, g, a, b, rfl, dk, go⟩
    | row l h =>
      refine ⟨_, rfl, rfl, _, rfl, cF (by decide) ?_⟩
      refine ⟨_, rfl, rfl, _, rfl, cT rfl ?_⟩
      exact ⟨_, rfl, d, dx0, _, rfl, l0.ins, DkF_no _ (by decide +kernel), _, rfl, d, pl, g, _, rfl, dk, hpl, h, go⟩
    | put a b =>
      refine ⟨_, rfl, rfl, _, rfl, cF (by decide) ?_⟩
      refine ⟨_, rfl, rfl, _, rfl, cF (by decide) ?_⟩
      refine ⟨_, rfl, rfl, _, rfl, cT rfl ?_⟩
      exact ⟨_, rfl, d, dx0, _, rfl, l0.ins, DkF_no _ (by decide +kernel), _, rfl, n, _, _, _, rfl, rfl, SqL.of hn, atI_nat (j := 0) rfl, _, rfl, n, _, _, _, rfl, rfl, SqL.of hn, atI_nat (j := 1) rfl, d, g, a, b, rfl, dk, go⟩
    | way a b c =>
      refine ⟨_, rfl, rfl, _, rfl, cF (by decide) ?_⟩
      refine ⟨_, rfl, rfl, _, rfl, cF (by decide) ?_⟩
      refine ⟨_, rfl, rfl, _, rfl, cF (by decide) ?_⟩
      refine ⟨_, rfl, rfl, _, rfl, cT rfl ?_⟩
      exact ⟨_, rfl, d, dx0, _, rfl, l0.ins, DkF_no _ (by decide +kernel), _, rfl, n, _, _, _, rfl, rfl, SqL.of hn, atI_nat (j := 0) rfl, _, rfl, n, _, _, _, rfl, rfl, SqL.of hn, atI_nat (j := 1) rfl, _, rfl, n, _, _, _, rfl, rfl, SqL.of hn, atI_nat (j := 2) rfl, d, g, a, b, c, rfl, dk, go⟩
    | comes a b =>
      refine ⟨_, rfl, rfl, _, rfl, cF (by decide) ?_⟩
      refine ⟨_, rfl, rfl, _, rfl, cF (by decide) ?_⟩
      refine ⟨_, rfl, rfl, _, rfl, cF (by decide) ?_⟩
      refine ⟨_, rfl, rfl, _, rfl, cF (by decide) ?_⟩
      refine ⟨_, rfl, rfl, _, rfl, cT rfl ?_⟩
      exact ⟨_, rfl, d, dx0, _, rfl, l0.ins, DkF_no _ (by decide +kernel), _, rfl, n, _, _, _, rfl, rfl, SqL.of hn, atI_nat (j := 0) rfl, _, rfl, n, _, _, _, rfl, rfl, SqL.of hn, atI_nat (j := 1) rfl, d, g, a, b, rfl, dk, go⟩
    | covers a b =>
      refine ⟨_, rfl, rfl, _, rfl, cF (by decide) ?_⟩
      refine ⟨_, rfl, rfl, _, rfl, cF (by decide) ?_⟩
      refine ⟨_, rfl, rfl, _, rfl, cF (by decide) ?_⟩
      refine ⟨_, rfl, rfl, _, rfl, cF (by decide) ?_⟩
      refine ⟨_, rfl, rfl, _, rfl, cF (by decide) ?_⟩
      refine ⟨_, rfl, rfl, _, rfl, cT rfl ?_⟩
      exact ⟨_, rfl, d, dx0, _, rfl, l0.ins, DkF_no _ (by decide +kernel), _, rfl, n, _, _, _, rfl, rfl, SqL.of hn, atI_nat (j := 0) rfl, _, rfl, n, _, _, _, rfl, rfl, SqL.of hn, atI_nat (j := 1) rfl, d, g, a, b, rfl, dk, go⟩
    | slope a =>
      refine ⟨_, rfl, rfl, _, rfl, cF (by decide) ?_⟩
      refine ⟨_, rfl, rfl, _, rfl, cF (by decide) ?_⟩
      refine ⟨_, rfl, rfl, _, rfl, cF (by decide) ?_⟩
      refine ⟨_, rfl, rfl, _, rfl, cF (by decide) ?_⟩
      refine ⟨_, rfl, rfl, _, rfl, cF (by decide) ?_⟩
      refine ⟨_, rfl, rfl, _, rfl, cF (by decide) ?_⟩
      refine ⟨_, rfl, rfl, _, rfl, cT rfl ?_⟩
      exact ⟨_, rfl, d, dx0, _, rfl, l0.ins, DkF_no _ (by decide +kernel), _, rfl, n, _, _, _, rfl, rfl, SqL.of hn, atI_nat (j := 0) rfl, d, g, a, rfl, dk, go⟩
    | turn =>
      refine ⟨_, rfl, rfl, _, rfl, cF (by decide) ?_⟩
      refine ⟨_, rfl, rfl, _, rfl, cF (by decide) ?_⟩
      refine ⟨_, rfl, rfl, _, rfl, cF (by decide) ?_⟩
      refine ⟨_, rfl, rfl, _, rfl, cF (by decide) ?_⟩
      refine ⟨_, rfl, rfl, _, rfl, cF (by decide) ?_⟩
      refine ⟨_, rfl, rfl, _, rfl, cF (by decide) ?_⟩
      refine ⟨_, rfl, rfl, _, rfl, cF (by decide) ?_⟩
      refine ⟨_, rfl, rfl, _, rfl, cT rfl ?_⟩
      exact ⟨_, rfl, d, dx0, _, rfl, l0.ins, DkF_no _ (by decide +kernel), d, g, rfl, dk, go⟩
    | state =>
      refine ⟨_, rfl, rfl, _, rfl, cF (by decide) ?_⟩
      refine ⟨_, rfl, rfl, _, rfl, cF (by decide) ?_⟩
      refine ⟨_, rfl, rfl, _, rfl, cF (by decide) ?_⟩
      refine ⟨_, rfl, rfl, _, rfl, cF (by decide) ?_⟩
      refine ⟨_, rfl, rfl, _, rfl, cF (by decide) ?_⟩
      refine ⟨_, rfl, rfl, _, rfl, cF (by decide) ?_⟩
      refine ⟨_, rfl, rfl, _, rfl, cF (by decide) ?_⟩
      refine ⟨_, rfl, rfl, _, rfl, cF (by decide) ?_⟩
      exact ⟨_, rfl, d, dx0, _, rfl, l0.ins, DkF_no _ (by decide +kernel), d, g, rfl, dk, go⟩
def spOfRounds (A : Ad) : Sp := fun vs H Q E => ∃ (d n : Addr) (g : Abs) (c : Nat) (ns : List Nat) (cl : Su183.Call), vs = [.ref d, .int (c : Int), .ref n] ∧ Dk A H d (some g) ∧ H n = some (.lst (ptsV ns)) ∧ RC c ns cl ∧ Goes A d H g cl Q E
theorem sc_of_rounds : FnScope ["desk", "call", "n"] ["desk", "call", "n"] (defScope s_of_rounds) := ⟨rfl, rfl, rfl, by decide +kernel, rfl, by decide +kernel, by decide +kernel⟩
theorem ok_of_rounds (T : Txt K mg A) : FnOk P w K mg base (L2.CX P w) 10 A.of_rounds.a A.of_rounds.d ["desk", "call", "n"] (spOfRounds A) := by
  refine T.of_rounds.fn.okX sc_of_rounds (fun vs H Q E h => ?_) (fun cdv Bo outer s H vs Q E hr h => ?_)
  · obtain ⟨d, n, g, c, ns, cl, rfl, _⟩ := h
    rfl
  · obtain ⟨d, n, g, c, ns, cl, rfl, dk, hn, rc, go⟩ := h
    refine ⟨_, pss_cons (ps_if (pt_cmpR op_eq (pv 1) pe_int (nomark _)) (pss_one (ps_ret (pe_meth (pv 0) T.clD T.d_has.m (ok_d_has T) (hr.mono (by decide)) T.d_has.b .nil (passes_call (takes_of rfl rfl rfl rfl) fun _ _ _ _ h => h) (pa_cons (pe_ix ix_list (pv 2) pe_int (fun _ _ => rfl)) pa_nil)))) pss_nil)
      (pss_cons (ps_if (pt_cmpR op_eq (pv 1) pe_int (nomark _)) (pss_one (ps_ret (pe_meth0 (pv 0) T.clD T.d_which.m (ok_d_which T) (hr.mono (by decide)) T.d_which.b .nil (passes_call (takes_of rfl rfl rfl rfl) fun _ _ _ _ h => h)))) pss_nil)
      (pss_cons (ps_if (pt_cmpR op_eq (pv 1) pe_int (nomark _)) (pss_one (ps_ret (pe_meth (pv 0) T.clD T.d_rounds.m (ok_d_rounds T) (hr.mono (by decide)) T.d_rounds.b .nil (passes_call (takes_of rfl rfl rfl rfl) fun _ _ _ _ h => h) (pa_cons (pe_ix ix_list (pv 2) pe_int (fun _ _ => rfl)) pa_nil)))) pss_nil)
      (pss_cons (ps_if (pt_cmpR op_eq (pv 1) pe_int (nomark _)) (pss_one (ps_ret (pe_meth (pv 0) T.clD T.d_round.m (ok_d_round T) hr T.d_round.b .nil (passes_call (takes_of rfl rfl rfl rfl) fun _ _ _ _ h => h) (pa_cons (pe_ix ix_list (pv 2) pe_int (fun _ _ => rfl)) (pa_cons (pe_ix ix_list (pv 2) pe_int (fun _ _ => rfl)) pa_nil))))) pss_nil)
      (pss_cons (ps_if (pt_cmpR op_eq (pv 1) pe_int (nomark _)) (pss_one (ps_ret (pe_meth (pv 0) T.clD T.d_type_of.m (ok_d_type_of T) hr T.d_type_of.b .nil (passes_call (takes_of rfl rfl rfl rfl) fun _ _ _ _ h => h) (pa_cons (pe_ix ix_list (pv 2) pe_int (fun _ _ => rfl)) (pa_cons (pe_ix ix_list (pv 2) pe_int (fun _ _ => rfl)) pa_nil))))) pss_nil)
      (pss_one (ps_ret (pe_call (ok_do_brings T) (hr.mono (by decide)) (by rfl) T.do_brings.mg T.do_brings.fn.kp T.do_brings.b .nil (passes_call (takes_of rfl rfl rfl rfl) fun _ _ _ _ h => h) (pa_cons (pe_ix ix_list (pv 2) pe_int (fun _ _ => rfl)) (pa_cons (pe_ix ix_list (pv 2) pe_int (fun _ _ => rfl)) pa_nil))))))))), ?_⟩
    obtain ⟨dx0, a0, lp0, fd0, l0⟩ := id dk
    cases rc with
    | has a =>
      refine ⟨_, rfl, rfl, _, rfl, cT rfl ?_⟩
      exact ⟨_, rfl, d, dx0, _, rfl, l0.ins, DkF_no _ (by decide +kernel), _, rfl, n, _, _, _, rfl, rfl, SqL.of hn, atI_nat (j := 0) rfl, d, g, a, rfl, dk, go⟩
    | which =>
      refine ⟨_, rfl, rfl, _, rfl, cF (by decide) ?_⟩
      refine ⟨_, rfl, rfl, _, rfl, cT rfl ?_⟩
      exact ⟨_, rfl, d, dx0, _, rfl, l0.ins, DkF_no _ (by decide +kernel), d, g, rfl, dk, go⟩
    | rounds a =>
      refine ⟨_, rfl, rfl, _, rfl, cF (by decide) ?_⟩
      refine ⟨_, rfl, rfl, _, rfl, cF (by decide) ?_⟩
      refine ⟨_, rfl, rfl, _, rfl, cT rfl ?_⟩
      exact ⟨_, rfl, d, dx0, _, rfl, l0.ins, DkF_no _ (by decide +kernel), _, rfl, n, _, _, _, rfl, rfl, SqL.of hn, atI_nat (j := 0) rfl, d, g, a, rfl, dk, go⟩
    | round a b =>
      refine ⟨_, rfl, rfl, _, rfl, cF (by decide) ?_⟩
      refine ⟨_, rfl, rfl, _, rfl, cF (by decide) ?_⟩
      refine ⟨_, rfl, rfl, _, rfl, cF (by decide) ?_⟩
      refine ⟨_, rfl, rfl, _, rfl, cT rfl ?_⟩
      exact ⟨_, rfl, d, dx0, _, rfl, l0.ins, DkF_no _ (by decide +kernel), _, rfl, n, _, _, _, rfl, rfl, SqL.of hn, atI_nat (j := 0) rfl, _, rfl, n, _, _, _, rfl, rfl, SqL.of hn, atI_nat (j := 1) rfl, d, g, a, b, rfl, dk, go⟩
    | type a b =>
      refine ⟨_, rfl, rfl, _, rfl, cF (by decide) ?_⟩
      refine ⟨_, rfl, rfl, _, rfl, cF (by decide) ?_⟩
      refine ⟨_, rfl, rfl, _, rfl, cF (by decide) ?_⟩
      refine ⟨_, rfl, rfl, _, rfl, cF (by decide) ?_⟩
      refine ⟨_, rfl, rfl, _, rfl, cT rfl ?_⟩
      exact ⟨_, rfl, d, dx0, _, rfl, l0.ins, DkF_no _ (by decide +kernel), _, rfl, n, _, _, _, rfl, rfl, SqL.of hn, atI_nat (j := 0) rfl, _, rfl, n, _, _, _, rfl, rfl, SqL.of hn, atI_nat (j := 1) rfl, d, g, a, b, rfl, dk, go⟩
    | brings a b =>
      refine ⟨_, rfl, rfl, _, rfl, cF (by decide) ?_⟩
      refine ⟨_, rfl, rfl, _, rfl, cF (by decide) ?_⟩
      refine ⟨_, rfl, rfl, _, rfl, cF (by decide) ?_⟩
      refine ⟨_, rfl, rfl, _, rfl, cF (by decide) ?_⟩
      refine ⟨_, rfl, rfl, _, rfl, cF (by decide) ?_⟩
      have ed : Su183.does g (.brings a b) = if a = 0 ∨ b = 0 ∨ 1000 < a ∨ 1000 < b then (g, Su183.no (-22)) else (g, Su183.num (Su183.bit (Su183.brings a b)) []) := rfl
      refine ⟨_, rfl, n, _, _, _, rfl, rfl, SqL.of hn, atI_nat (j := 0) rfl, _, rfl, n, _, _, _, rfl, rfl, SqL.of hn, atI_nat (j := 1) rfl, a, b, rfl, fun z => ?_, fun z p H1 s1 hp h1 => ?_⟩
      · have e : Su183.does g (.brings a b) = (g, Su183.no (-22)) := by rw [ed, if_pos z]
        exact (go.no e (by decide)).rz (.of (Same.refl _)) dk
      · have e : Su183.does g (.brings a b) = (g, Su183.num (Su183.bit (Su183.brings a b)) []) := by rw [ed, if_neg z]
        exact go.yes e p H1 (.of s1) (dk.same s1) hp h1
end
end FW

namespace FW
open PySem PySem.Spec PyProof.Rows L2
open Su183 (Abs Frac)
open FL (WF Pl)
/-! ## A call played -/
inductive TC : Nat → List Nat → List Nat → Su183.Call → Prop
  | begin_ (a : Nat) : TC 0 [a] [] (.begin_ a)
  | line {c : Nat} {ns r : List Nat} {cl : Su183.Call} (h : LC c ns r cl) : TC c ns r cl
  | rnd {c : Nat} {ns : List Nat} {cl : Su183.Call} (h : RC c ns cl) : TC c ns [] cl
theorem LC.at {c : Nat} {ns r : List Nat} {cl : Su183.Call} (h : LC c ns r cl) : c ≠ 0 ∧ ¬ (7 ≤ c ∧ c ≤ 12) := by cases h <;> decide
theorem RC.at {c : Nat} {ns : List Nat} {cl : Su183.Call} (h : RC c ns cl) : 7 ≤ c ∧ c ≤ 12 := by cases h <;> decide
theorem LC.none {c : Nat} {ns r : List Nat} {cl : Su183.Call} (h : LC c ns r cl) : Su183.step none cl = (none, Su183.no (-11)) := by cases h <;> rfl
theorem RC.none {c : Nat} {ns : List Nat} {cl : Su183.Call} (h : RC c ns cl) : Su183.step none cl = (none, Su183.no (-11)) := by cases h <;> rfl
theorem step_some (g : Abs) (cl : Su183.Call) : Su183.step (some g) cl = (some (Su183.does g cl).1, (Su183.does g cl).2) := rfl
theorem neg_num {n : Nat} {l : List Int} : ¬ (Su183.num n l).value < 0 := by
  show ¬ (n : Int) < 0
  omega
theorem does_or (g : Abs) (cl : Su183.Call) : (∃ v, Su183.does g cl = (g, Su183.no v)) ∨ ∃ g' n l, Su183.does g cl = (g', Su183.num n l) := by
  cases cl <;> simp only [Su183.does] <;> repeat' split
  all_goals first | exact .inl ⟨_, rfl⟩ | exact .inr ⟨_, _, _, rfl⟩
theorem does_no {g : Abs} {cl : Su183.Call} (h : (Su183.does g cl).2.value < 0) : (Su183.does g cl).1 = g ∧ (Su183.does g cl).2.out = [] := by
  rcases does_or g cl with ⟨v, e⟩ | ⟨g', n, l, e⟩
  · rw [e]
    exact ⟨rfl, rfl⟩
  · rw [e] at h
    exact absurd h neg_num
def Plays (A : Ad) (d : Addr) (H : Hp) (s : Option Abs) (cl : Su183.Call) (Q : VK) (E : XK) : Prop :=
  ((Su183.step s cl).2.value < 0 → Rais A d H s (Su183.step s cl).2.value E) ∧
  (0 ≤ (Su183.step s cl).2.value → Rets A d H (Su183.step s cl).1 ((Su183.step s cl).2.value :: (Su183.step s cl).2.out) Q)
theorem Plays.goes {A : Ad} {d : Addr} {H : Hp} {g : Abs} {cl : Su183.Call} {Q : VK} {E : XK} (h : Plays A d H (some g) cl Q E) : Goes A d H g cl Q E := h
theorem Plays.none {A : Ad} {d : Addr} {H : Hp} {cl : Su183.Call} {Q : VK} {E : XK} (h : Plays A d H none cl Q E) (e : Su183.step none cl = (none, Su183.no (-11))) : Rais A d H none (-11) E := by
  have q := h.1
  rw [e] at q
  exact q (by decide)
theorem step_begin_no {s : Option Abs} {a : Nat} (h : a = 0 ∨ 6 < a) : Su183.step s (.begin_ a) = (s, Su183.no (-22)) := by
  cases s with
  | none =>
    have e : Su183.does (Su183.new 1) (.begin_ a) = (Su183.new 1, Su183.no (-22)) := if_pos h
    show (if (Su183.does (Su183.new 1) (.begin_ a)).2.value < 0 then _ else _, _) = _
    rw [e]
    rfl
  | some g =>
    have e : Su183.does g (.begin_ a) = (g, Su183.no (-22)) := if_pos h
    rw [step_some, e]
theorem step_begin_yes {s : Option Abs} {a : Nat} (h : ¬ (a = 0 ∨ 6 < a)) : Su183.step s (.begin_ a) = (some (Su183.new a), Su183.num 0 []) := by
  cases s with
  | none =>
    have e : Su183.does (Su183.new 1) (.begin_ a) = (Su183.new a, Su183.num 0 []) := if_neg h
    show (if (Su183.does (Su183.new 1) (.begin_ a)).2.value < 0 then _ else _, _) = _
    rw [e]
    rfl
  | some g =>
    have e : Su183.does g (.begin_ a) = (Su183.new a, Su183.num 0 []) := if_neg h
    rw [step_some, e]
theorem step_no {s : Option Abs} {cl : Su183.Call} (h : (Su183.step s cl).2.value < 0) : (Su183.step s cl).1 = s := by
  cases s with
  | some g =>
    rw [step_some] at h ⊢
    exact congrArg some (does_no h).1
  | none =>
    cases cl with
    | begin_ a =>
      by_cases z : a = 0 ∨ 6 < a
      · rw [step_begin_no z]
      · rw [step_begin_yes z] at h
        exact absurd h neg_num
    | _ => rfl
section
variable {P : Program} {w : World} {K : PySem.W.Frag} {mg : Str → Option Value} {base : Heap} {A : Ad}

/-! ## told -/
def spTold (A : Ad) : Sp := fun vs H Q E => ∃ (d n pl : Addr) (s : Option Abs) (c : Nat) (ns r : List Nat) (cl : Su183.Call), vs = [.ref d, .int (c : Int), .ref n, .ref pl] ∧ Dk A H d s ∧ H n = some (.lst (ptsV ns)) ∧ H pl = some (.lst (ptsV r)) ∧ TC c ns r cl ∧ Plays A d H s cl Q E
theorem sc_told : FnScope ["desk", "call", "n", "points"] ["desk", "call", "n", "points"] (defScope s_told) := ⟨rfl, rfl, rfl, by decide +kernel, rfl, by decide +kernel, by decide +kernel⟩
theorem ok_told (T : Txt K mg A) : FnOk P w K mg base (L2.CX P w) 11 A.told.a A.told.d ["desk", "call", "n", "points"] (spTold A) := by
  refine T.told.fn.okX sc_told (fun vs H Q E h => ?_) (fun cdv Bo outer s H vs Q E hr h => ?_)
  · obtain ⟨d, n, pl, s, c, ns, r, cl, rfl, _⟩ := h
    rfl
  · obtain ⟨d, n, pl, s, c, ns, r, cl, rfl, dk, hn, hpl, tc, pl0⟩ := h
    refine ⟨_, pss_cons (ps_if (pt_cmpR op_eq (pv 1) pe_int (nomark _)) (pss_one (ps_ret (pe_meth (pv 0) T.clD T.d_begin.m (ok_d_begin T) (hr.mono (by decide)) T.d_begin.b .nil (passes_call (takes_of rfl rfl rfl rfl) fun _ _ _ _ h => h) (pa_cons (pe_ix ix_list (pv 2) pe_int (fun _ _ => rfl)) pa_nil)))) pss_nil)
      (pss_cons (ps_expr (pe_meth0 (pv 0) T.clD T.d_line.m (ok_d_line T) (hr.mono (by decide)) T.d_line.b .nil (passes_call (takes_of rfl rfl rfl rfl) fun _ _ _ _ h => h)))
      (pss_cons (ps_if (pt_chain op_le op_le pe_int (pv 1) pe_int)
          (pss_one (ps_ret (pe_call (ok_of_rounds T) hr (by rfl) T.of_rounds.mg T.of_rounds.fn.kp T.of_rounds.b .nil (passes_call (takes_of rfl rfl rfl rfl) fun _ _ _ _ h => h) (pa_cons (pv 0) (pa_cons (pv 1) (pa_cons (pv 2) pa_nil)))))) pss_nil)
      (pss_one (ps_ret (pe_call (ok_of_line T) (hr.mono (by decide)) (by rfl) T.of_line.mg T.of_line.fn.kp T.of_line.b .nil (passes_call (takes_of rfl rfl rfl rfl) fun _ _ _ _ h => h) (pa_cons (pv 0) (pa_cons (pv 1) (pa_cons (pv 2) (pa_cons (pv 3) pa_nil)))))))))  , ?_⟩
    obtain ⟨dx, v, hd⟩ := dk.ins
    cases tc with
    | begin_ a =>
      refine ⟨_, rfl, rfl, _, rfl, cT rfl ?_⟩
      refine ⟨_, rfl, d, dx, _, rfl, hd, DkF_no _ (by decide +kernel), _, rfl, n, _, _, _, rfl, rfl, SqL.of hn, atI_nat (j := 0) rfl, d, s, a, rfl, dk, fun z => ?_, fun z => ?_⟩
      · have q := pl0.1
        rw [step_begin_no z] at q
        exact q (show (-22 : Int) < 0 by decide)
      · have q := pl0.2
        rw [step_begin_yes z] at q
        exact q (Int.le_refl 0)
    | line h =>
      obtain ⟨c0, c7⟩ := h.at
      refine ⟨_, rfl, rfl, _, rfl, cF (by omega) ?_⟩
      refine ⟨_, rfl, d, dx, _, rfl, hd, DkF_no _ (by decide +kernel), d, s, rfl, dk, fun z => ?_, fun dx a lp fd g eg l => ?_⟩
      · subst z
        exact (pl0.none h.none).rz (.of (Same.refl _)) dk
      · subst eg
        refine ⟨_, rfl, _, _, rfl, rfl, _, rfl, ?_⟩
        refine ite2 (fun a1 => ?_) (fun a1 => ?_)
        · have a1' : (7 : Int) ≤ (c : Int) := of_decide_eq_true a1
          refine ⟨_, _, rfl, rfl, _, rfl, ite2 (fun a2 => ?_) (fun a2 => ⟨_, rfl, _, rfl, _, rfl, _, rfl, d, n, pl, g, c, ns, r, cl, rfl, dk, hn, hpl, h, pl0.goes⟩)⟩
          have a2' : (c : Int) ≤ 12 := of_decide_eq_true a2
          exact absurd (⟨by omega, by omega⟩ : 7 ≤ c ∧ c ≤ 12) c7
        · exact ⟨_, rfl, iteF ⟨_, rfl, _, rfl, _, rfl, _, rfl, d, n, pl, g, c, ns, r, cl, rfl, dk, hn, hpl, h, pl0.goes⟩⟩
    | rnd h =>
      have c7 := h.at
      refine ⟨_, rfl, rfl, _, rfl, cF (by omega) ?_⟩
      refine ⟨_, rfl, d, dx, _, rfl, hd, DkF_no _ (by decide +kernel), d, s, rfl, dk, fun z => ?_, fun dx a lp fd g eg l => ?_⟩
      · subst z
        exact (pl0.none h.none).rz (.of (Same.refl _)) dk
      · subst eg
        refine ⟨_, rfl, _, _, rfl, rfl, _, rfl, ?_⟩
        refine ite2 (fun a1 => ?_) (fun a1 => absurd (decide_eq_true (by omega : (7 : Int) ≤ (c : Int))) a1)
        refine ⟨_, _, rfl, rfl, _, rfl, ite2 (fun a2 => ?_) (fun a2 => absurd (decide_eq_true (by omega : (c : Int) ≤ (12 : Int))) a2)⟩
        exact ⟨_, rfl, _, rfl, _, rfl, d, n, g, c, ns, cl, rfl, dk, hn, h, pl0.goes⟩

/-! ## answered -/
def spAnswered (A : Ad) : Sp := fun vs H Q _ => ∃ (d n pl : Addr) (s : Option Abs) (c : Nat) (ns r : List Nat) (cl : Su183.Call), vs = [.ref d, .int (c : Int), .ref n, .ref pl] ∧ Dk A H d s ∧ H n = some (.lst (ptsV ns)) ∧ H pl = some (.lst (ptsV r)) ∧ TC c ns r cl ∧
  ∀ p H', SameLT H H' → Dk A H' d (Su183.step s cl).1 → (∀ xs, H p ≠ some (.lst xs)) → H' p = some (.lst (intV ((Su183.step s cl).2.value :: (Su183.step s cl).2.out))) → Q (.ref p) H'
theorem sc_answered : FnScope ["desk", "call", "n", "points", "found", "e"] ["desk", "call", "n", "points"] (defScope s_answered) := ⟨rfl, rfl, rfl, by decide +kernel, rfl, by decide +kernel, by decide +kernel⟩
theorem step_out {s : Option Abs} {cl : Su183.Call} (h : (Su183.step s cl).2.value < 0) : (Su183.step s cl).2.out = [] := by
  have key : ∀ g : Abs, (Su183.does g cl).2.value < 0 → (Su183.does g cl).2.out = [] := fun g h => (does_no h).2
  cases s with
  | some g => exact key g h
  | none =>
    cases cl with
    | begin_ a => exact key _ h
    | _ => rfl
theorem ok_answered (T : Txt K mg A) : FnOk P w K mg base CX0 12 A.answered.a A.answered.d ["desk", "call", "n", "points"] (spAnswered A) := by
  refine T.answered.fn.ok sc_answered (fun vs H Q E h => ?_) (fun cdv Bo outer sh H vs Q E hr h => ?_)
  · obtain ⟨d, n, pl, s, c, ns, r, cl, rfl, _⟩ := h
    rfl
  · obtain ⟨d, n, pl, s, c, ns, r, cl, rfl, dk, hn, hpl, tc, kk⟩ := h
    refine ⟨_, pss_cons (ps_try_as (i := 5) (tb := fun W => tAsg (tCallS (spTold A) (WE W) (tCons (tVar 0) (tCons (tVar 1) (tCons (tVar 2) (tCons (tVar 3) tNil))))) (gName 4)) (ts := fun a cls d => tAsg (tLst (tCons (tXf a cls d A.cR "refusal" (tVar 5)) tNil)) (gName 4)) (Wout := fun _ _ _ _ => False) rfl rfl sc_answered.nd rfl rfl ⟨rfl, by decide, Or.inl T.gR⟩ takes0
          (fun W pn xe tk _ => pss_one (ps_set (i := 4) sc_answered.nd rfl (Or.inl rfl) (by exact (pe_callS (ok_told T) hr rfl T.told.mg T.told.fn.kp T.told.b (fun σ => passAt tk σ) (by exact (pa_cons (pv 0) (pa_cons (pv 1) (pa_cons (pv 2) (pa_cons (pv 3) pa_nil)))))))))
          (fun a oe cls d pn hz hf => pss_one (ps_set (i := 4) sc_answered.nd rfl (Or.inl rfl) (by exact (pe_lst (pa_cons (pe_xf T.xR T.noR hz hf (pv 5)) pa_nil))))))
      (pss_one (ps_ret (pv 4))), ?_⟩
    refine ⟨_, rfl, _, rfl, _, rfl, _, rfl, d, n, pl, s, c, ns, r, cl, rfl, dk, hn, hpl, tc, fun neg dd H1 lt dk1 hdd => ?_, fun pos p H1 lt dk1 hp h1 => ?_⟩
    · refine ⟨true, T.eR, fun _ a0 _ => ?_, fun q => Bool.noConfusion q⟩
      refine ⟨_, rfl, rfl, rfl, dd, _, _, rfl, hdd, lk_here, line_le (by show 1 ≤ 16777216; decide), fun p hp => ?_⟩
      refine ⟨_, rfl, ?_⟩
      refine kk p _ (lt.trans (.of (same_new hp))) ?_ (fun xs e => ?_) ?_
      · rw [step_no neg]
        exact dk1.same (same_new hp)
      · have := lt _ _ e (.inl ⟨_, rfl⟩)
        rw [hp] at this
        cases this
      · rw [upd_same, step_out neg]
        rfl
    · exact ⟨_, rfl, kk p H1 lt dk1 (fun xs e => by rw [hp] at e; cases e) h1⟩
end
end FW

namespace FW
open PySem PySem.Spec PyProof.Rows L2
open Su183 (Abs Frac)
/-! ## The list of calls, in plain Lean -/
def ofN (l : List Nat) : List Int := l.map fun (v : Nat) => (v : Int)
theorem ofN_len (l : List Nat) : (ofN l).length = l.length := List.length_map _
theorem intV_ofN (l : List Nat) : intV (ofN l) = ptsV l := by
  unfold intV ofN ptsV
  rw [List.map_map]
  rfl
def numsN : List Nat := [1, 2, 0, 2, 3, 2, 2, 1, 0, 1, 2, 2, 2, 1, 0, 0]
theorem within_nat {hi a : Int} (h : PyInside.within 0 hi a = true) : ∃ n : Nat, a = (n : Int) := by
  unfold PyInside.within at h
  rw [Bool.and_eq_true, decide_eq_true_iff] at h
  exact ⟨a.toNat, (Int.toNat_of_nonneg h.1).symm⟩
theorem all_nat {hi : Int} : ∀ {l : List Int}, l.all (PyInside.within 0 hi) = true → ∃ ns : List Nat, l = ofN ns
  | [], _ => ⟨[], rfl⟩
  | a :: l, h => by
    rw [List.all_cons, Bool.and_eq_true] at h
    obtain ⟨n, rfl⟩ := within_nat h.1
    obtain ⟨ns, rfl⟩ := all_nat h.2
    exact ⟨n :: ns, rfl⟩
theorem each_nat {m : Int} : ∀ {k : Nat} {l : List Int}, l.length = k → PyInside.each (List.replicate k (0, m)) l = true → ∃ ns : List Nat, l = ofN ns
  | 0, [], _, _ => ⟨[], rfl⟩
  | k + 1, a :: l, e, h => by
    have h' : (PyInside.within 0 m a && PyInside.each (List.replicate k (0, m)) l) = true := h
    rw [Bool.and_eq_true] at h'
    obtain ⟨n, rfl⟩ := within_nat h'.1
    obtain ⟨ns, rfl⟩ := each_nat (k := k) (Nat.succ.inj e) h'.2
    exact ⟨n :: ns, rfl⟩
theorem call_eq (p : Int) (r : List Int) : PyFlat.call PySu183.shape (p :: r) = match PySu183.shape p with
    | none => none
    | some (n, k) => if r.length < n then none else match PyFlat.rows k (r.drop n) with
      | none => none
      | some (xs, t) => some ((p :: r.take n) :: xs, t) := rfl
theorem call_plain {p : Int} {n : Nat} {r t' : List Int} {c : List (List Int)} (hs : PySu183.shape p = some (n, 0)) (h : PyFlat.call PySu183.shape (p :: r) = some (c, t')) : ∃ xs, r = xs ++ t' ∧ xs.length = n ∧ c = [p :: xs] := by
  rw [call_eq] at h
  rw [hs] at h
  by_cases z : r.length < n
  · simp only [if_pos z] at h
    cases h
  · simp only [if_neg z, PyFlat.rows] at h
    injection h with h
    injection h with h1 h2
    refine ⟨r.take n, ?_, ?_, h1.symm⟩
    · rw [← h2, List.take_append_drop]
    · rw [List.length_take]
      omega
/-- a call's parts -/
structure Call1 (t t' : List Int) (c : List (List Int)) (cn : Nat) (ns rr : List Nat) (cl : Su183.Call) (rest : List Int) : Prop where
  tc : TC cn ns rr cl
  of : Su183Neutral.callOf ((PySu183.whole c).headD []) = some cl
  at_ : t = (cn : Int) :: (ofN ns ++ rest)
  nums : numsN[cn]? = some ns.length
  few : rr.length ≤ 10
  row : (cn ≠ 2 ∧ rr = [] ∧ t' = rest) ∨ (cn = 2 ∧ ns = [] ∧ rest = (rr.length : Int) :: (ofN rr ++ t'))
theorem len0 {l : List Nat} (h : l.length = 0) : l = [] := List.length_eq_zero_iff.mp h
theorem len1 {l : List Nat} (h : l.length = 1) : ∃ a, l = [a] := List.length_eq_one_iff.mp h
theorem len2 {l : List Nat} (h : l.length = 2) : ∃ a b, l = [a, b] := match l, h with | [a, b], _ => ⟨a, b, rfl⟩
theorem len3 {l : List Nat} (h : l.length = 3) : ∃ a b c, l = [a, b, c] := match l, h with | [a, b, c], _ => ⟨a, b, c, rfl⟩
theorem call_0 {r t' : List Int} {c : List (List Int)} (h : PyFlat.call PySu183.shape ((0 : Int) :: r) = some (c, t')) (hb : PyInside.call PySu183.bound c = true) : ∃ cn ns rr cl rest, Call1 ((0 : Int) :: r) t' c cn ns rr cl rest := by
  obtain ⟨xs, rfl, hl, rfl⟩ := call_plain (n := 1) (by decide) h
  have hb1 : (PyInside.each (List.replicate 1 (0, 4294967295)) xs && true) = true := hb
  rw [Bool.and_true] at hb1
  obtain ⟨ns, rfl⟩ := each_nat hl hb1
  rw [ofN_len] at hl
  obtain ⟨a, rfl⟩ := len1 hl
  exact ⟨0, [a], [], .begin_ a, t', .begin_ a, rfl, rfl, rfl, Nat.zero_le _, .inl ⟨by decide, rfl, rfl⟩⟩
theorem call_1 {r t' : List Int} {c : List (List Int)} (h : PyFlat.call PySu183.shape ((1 : Int) :: r) = some (c, t')) (hb : PyInside.call PySu183.bound c = true) : ∃ cn ns rr cl rest, Call1 ((1 : Int) :: r) t' c cn ns rr cl rest := by
  obtain ⟨xs, rfl, hl, rfl⟩ := call_plain (n := 2) (by decide) h
  have hb1 : (PyInside.each (List.replicate 2 (0, 4294967295)) xs && true) = true := hb
  rw [Bool.and_true] at hb1
  obtain ⟨ns, rfl⟩ := each_nat hl hb1
  rw [ofN_len] at hl
  obtain ⟨a, b, rfl⟩ := len2 hl
  exact ⟨1, [a, b], [], .set a b, t', .line (.set a b), rfl, rfl, rfl, Nat.zero_le _, .inl ⟨by decide, rfl, rfl⟩⟩
theorem call_3 {r t' : List Int} {c : List (List Int)} (h : PyFlat.call PySu183.shape ((3 : Int) :: r) = some (c, t')) (hb : PyInside.call PySu183.bound c = true) : ∃ cn ns rr cl rest, Call1 ((3 : Int) :: r) t' c cn ns rr cl rest := by
  obtain ⟨xs, rfl, hl, rfl⟩ := call_plain (n := 2) (by decide) h
  have hb1 : (PyInside.each (List.replicate 2 (0, 4294967295)) xs && true) = true := hb
  rw [Bool.and_true] at hb1
  obtain ⟨ns, rfl⟩ := each_nat hl hb1
  rw [ofN_len] at hl
  obtain ⟨a, b, rfl⟩ := len2 hl
  exact ⟨3, [a, b], [], .put a b, t', .line (.put a b), rfl, rfl, rfl, Nat.zero_le _, .inl ⟨by decide, rfl, rfl⟩⟩
theorem call_4 {r t' : List Int} {c : List (List Int)} (h : PyFlat.call PySu183.shape ((4 : Int) :: r) = some (c, t')) (hb : PyInside.call PySu183.bound c = true) : ∃ cn ns rr cl rest, Call1 ((4 : Int) :: r) t' c cn ns rr cl rest := by
  obtain ⟨xs, rfl, hl, rfl⟩ := call_plain (n := 3) (by decide) h
  have hb1 : (PyInside.each (List.replicate 3 (0, 4294967295)) xs && true) = true := hb
  rw [Bool.and_true] at hb1
  obtain ⟨ns, rfl⟩ := each_nat hl hb1
  rw [ofN_len] at hl
  obtain ⟨a, b, c, rfl⟩ := len3 hl
  exact ⟨4, [a, b, c], [], .way a b c, t', .line (.way a b c), rfl, rfl, rfl, Nat.zero_le _, .inl ⟨by decide, rfl, rfl⟩⟩
theorem call_5 {r t' : List Int} {c : List (List Int)} (h : PyFlat.call PySu183.shape ((5 : Int) :: r) = some (c, t')) (hb : PyInside.call PySu183.bound c = true) : ∃ cn ns rr cl rest, Call1 ((5 : Int) :: r) t' c cn ns rr cl rest := by
  obtain ⟨xs, rfl, hl, rfl⟩ := call_plain (n := 2) (by decide) h
  have hb1 : (PyInside.each (List.replicate 2 (0, 4294967295)) xs && true) = true := hb
  rw [Bool.and_true] at hb1
  obtain ⟨ns, rfl⟩ := each_nat hl hb1
  rw [ofN_len] at hl
  obtain ⟨a, b, rfl⟩ := len2 hl
  exact ⟨5, [a, b], [], .comes a b, t', .line (.comes a b), rfl, rfl, rfl, Nat.zero_le _, .inl ⟨by decide, rfl, rfl⟩⟩
theorem call_6 {r t' : List Int} {c : List (List Int)} (h : PyFlat.call PySu183.shape ((6 : Int) :: r) = some (c, t')) (hb : PyInside.call PySu183.bound c = true) : ∃ cn ns rr cl rest, Call1 ((6 : Int) :: r) t' c cn ns rr cl rest := by
  obtain ⟨xs, rfl, hl, rfl⟩ := call_plain (n := 2) (by decide) h
  have hb1 : (PyInside.each (List.replicate 2 (0, 4294967295)) xs && true) = true := hb
  rw [Bool.and_true] at hb1
  obtain ⟨ns, rfl⟩ := each_nat hl hb1
  rw [ofN_len] at hl
  obtain ⟨a, b, rfl⟩ := len2 hl
  exact ⟨6, [a, b], [], .covers a b, t', .line (.covers a b), rfl, rfl, rfl, Nat.zero_le _, .inl ⟨by decide, rfl, rfl⟩⟩
theorem call_7 {r t' : List Int} {c : List (List Int)} (h : PyFlat.call PySu183.shape ((7 : Int) :: r) = some (c, t')) (hb : PyInside.call PySu183.bound c = true) : ∃ cn ns rr cl rest, Call1 ((7 : Int) :: r) t' c cn ns rr cl rest := by
  obtain ⟨xs, rfl, hl, rfl⟩ := call_plain (n := 1) (by decide) h
  have hb1 : (PyInside.each (List.replicate 1 (0, 4294967295)) xs && true) = true := hb
  rw [Bool.and_true] at hb1
  obtain ⟨ns, rfl⟩ := each_nat hl hb1
  rw [ofN_len] at hl
  obtain ⟨a, rfl⟩ := len1 hl
  exact ⟨7, [a], [], .has a, t', .rnd (.has a), rfl, rfl, rfl, Nat.zero_le _, .inl ⟨by decide, rfl, rfl⟩⟩
theorem call_8 {r t' : List Int} {c : List (List Int)} (h : PyFlat.call PySu183.shape ((8 : Int) :: r) = some (c, t')) (hb : PyInside.call PySu183.bound c = true) : ∃ cn ns rr cl rest, Call1 ((8 : Int) :: r) t' c cn ns rr cl rest := by
  obtain ⟨xs, rfl, hl, rfl⟩ := call_plain (n := 0) (by decide) h
  have hb1 : (PyInside.each (List.replicate 0 (0, 4294967295)) xs && true) = true := hb
  rw [Bool.and_true] at hb1
  obtain ⟨ns, rfl⟩ := each_nat hl hb1
  rw [ofN_len] at hl
  obtain rfl := len0 hl
  exact ⟨8, [], [], .which, t', .rnd (.which), rfl, rfl, rfl, Nat.zero_le _, .inl ⟨by decide, rfl, rfl⟩⟩
theorem call_9 {r t' : List Int} {c : List (List Int)} (h : PyFlat.call PySu183.shape ((9 : Int) :: r) = some (c, t')) (hb : PyInside.call PySu183.bound c = true) : ∃ cn ns rr cl rest, Call1 ((9 : Int) :: r) t' c cn ns rr cl rest := by
  obtain ⟨xs, rfl, hl, rfl⟩ := call_plain (n := 1) (by decide) h
  have hb1 : (PyInside.each (List.replicate 1 (0, 4294967295)) xs && true) = true := hb
  rw [Bool.and_true] at hb1
  obtain ⟨ns, rfl⟩ := each_nat hl hb1
  rw [ofN_len] at hl
  obtain ⟨a, rfl⟩ := len1 hl
  exact ⟨9, [a], [], .rounds a, t', .rnd (.rounds a), rfl, rfl, rfl, Nat.zero_le _, .inl ⟨by decide, rfl, rfl⟩⟩
theorem call_10 {r t' : List Int} {c : List (List Int)} (h : PyFlat.call PySu183.shape ((10 : Int) :: r) = some (c, t')) (hb : PyInside.call PySu183.bound c = true) : ∃ cn ns rr cl rest, Call1 ((10 : Int) :: r) t' c cn ns rr cl rest := by
  obtain ⟨xs, rfl, hl, rfl⟩ := call_plain (n := 2) (by decide) h
  have hb1 : (PyInside.each (List.replicate 2 (0, 4294967295)) xs && true) = true := hb
  rw [Bool.and_true] at hb1
  obtain ⟨ns, rfl⟩ := each_nat hl hb1
  rw [ofN_len] at hl
  obtain ⟨a, b, rfl⟩ := len2 hl
  exact ⟨10, [a, b], [], .round a b, t', .rnd (.round a b), rfl, rfl, rfl, Nat.zero_le _, .inl ⟨by decide, rfl, rfl⟩⟩
theorem call_11 {r t' : List Int} {c : List (List Int)} (h : PyFlat.call PySu183.shape ((11 : Int) :: r) = some (c, t')) (hb : PyInside.call PySu183.bound c = true) : ∃ cn ns rr cl rest, Call1 ((11 : Int) :: r) t' c cn ns rr cl rest := by
  obtain ⟨xs, rfl, hl, rfl⟩ := call_plain (n := 2) (by decide) h
  have hb1 : (PyInside.each (List.replicate 2 (0, 4294967295)) xs && true) = true := hb
  rw [Bool.and_true] at hb1
  obtain ⟨ns, rfl⟩ := each_nat hl hb1
  rw [ofN_len] at hl
  obtain ⟨a, b, rfl⟩ := len2 hl
  exact ⟨11, [a, b], [], .type a b, t', .rnd (.type a b), rfl, rfl, rfl, Nat.zero_le _, .inl ⟨by decide, rfl, rfl⟩⟩
theorem call_12 {r t' : List Int} {c : List (List Int)} (h : PyFlat.call PySu183.shape ((12 : Int) :: r) = some (c, t')) (hb : PyInside.call PySu183.bound c = true) : ∃ cn ns rr cl rest, Call1 ((12 : Int) :: r) t' c cn ns rr cl rest := by
  obtain ⟨xs, rfl, hl, rfl⟩ := call_plain (n := 2) (by decide) h
  have hb1 : (PyInside.each (List.replicate 2 (0, 4294967295)) xs && true) = true := hb
  rw [Bool.and_true] at hb1
  obtain ⟨ns, rfl⟩ := each_nat hl hb1
  rw [ofN_len] at hl
  obtain ⟨a, b, rfl⟩ := len2 hl
  exact ⟨12, [a, b], [], .brings a b, t', .rnd (.brings a b), rfl, rfl, rfl, Nat.zero_le _, .inl ⟨by decide, rfl, rfl⟩⟩
theorem call_13 {r t' : List Int} {c : List (List Int)} (h : PyFlat.call PySu183.shape ((13 : Int) :: r) = some (c, t')) (hb : PyInside.call PySu183.bound c = true) : ∃ cn ns rr cl rest, Call1 ((13 : Int) :: r) t' c cn ns rr cl rest := by
  obtain ⟨xs, rfl, hl, rfl⟩ := call_plain (n := 1) (by decide) h
  have hb1 : (PyInside.each (List.replicate 1 (0, 4294967295)) xs && true) = true := hb
  rw [Bool.and_true] at hb1
  obtain ⟨ns, rfl⟩ := each_nat hl hb1
  rw [ofN_len] at hl
  obtain ⟨a, rfl⟩ := len1 hl
  exact ⟨13, [a], [], .slope a, t', .line (.slope a), rfl, rfl, rfl, Nat.zero_le _, .inl ⟨by decide, rfl, rfl⟩⟩
theorem call_14 {r t' : List Int} {c : List (List Int)} (h : PyFlat.call PySu183.shape ((14 : Int) :: r) = some (c, t')) (hb : PyInside.call PySu183.bound c = true) : ∃ cn ns rr cl rest, Call1 ((14 : Int) :: r) t' c cn ns rr cl rest := by
  obtain ⟨xs, rfl, hl, rfl⟩ := call_plain (n := 0) (by decide) h
  have hb1 : (PyInside.each (List.replicate 0 (0, 4294967295)) xs && true) = true := hb
  rw [Bool.and_true] at hb1
  obtain ⟨ns, rfl⟩ := each_nat hl hb1
  rw [ofN_len] at hl
  obtain rfl := len0 hl
  exact ⟨14, [], [], .turn, t', .line (.turn), rfl, rfl, rfl, Nat.zero_le _, .inl ⟨by decide, rfl, rfl⟩⟩
theorem call_15 {r t' : List Int} {c : List (List Int)} (h : PyFlat.call PySu183.shape ((15 : Int) :: r) = some (c, t')) (hb : PyInside.call PySu183.bound c = true) : ∃ cn ns rr cl rest, Call1 ((15 : Int) :: r) t' c cn ns rr cl rest := by
  obtain ⟨xs, rfl, hl, rfl⟩ := call_plain (n := 0) (by decide) h
  have hb1 : (PyInside.each (List.replicate 0 (0, 4294967295)) xs && true) = true := hb
  rw [Bool.and_true] at hb1
  obtain ⟨ns, rfl⟩ := each_nat hl hb1
  rw [ofN_len] at hl
  obtain rfl := len0 hl
  exact ⟨15, [], [], .state, t', .line (.state), rfl, rfl, rfl, Nat.zero_le _, .inl ⟨by decide, rfl, rfl⟩⟩
theorem call_2 {r t' : List Int} {c : List (List Int)} (h : PyFlat.call PySu183.shape ((2 : Int) :: r) = some (c, t')) (hb : PyInside.call PySu183.bound c = true) : ∃ cn ns rr cl rest, Call1 ((2 : Int) :: r) t' c cn ns rr cl rest := by
  rw [call_eq] at h
  rw [show PySu183.shape 2 = some (0, 1) by decide] at h
  simp only [Nat.not_lt_zero, if_false, List.drop_zero, List.take_zero, PyFlat.rows] at h
  cases r with
  | nil =>
    simp only [PyFlat.row] at h
    cases h
  | cons m r =>
    by_cases z : 0 ≤ m ∧ m.toNat ≤ r.length
    · simp only [PyFlat.row, if_pos z] at h
      injection h with h
      injection h with h1 h2
      subst h1
      have hb1 : (PyInside.each [] [] && (decide (0 ≤ (r.take m.toNat).length) && decide ((r.take m.toNat).length ≤ 10) && (r.take m.toNat).all (PyInside.within 0 4294967295) && true)) = true := hb
      rw [Bool.and_true, Bool.and_eq_true, Bool.and_eq_true, Bool.and_eq_true, decide_eq_true_iff, decide_eq_true_iff] at hb1
      obtain ⟨_, ⟨_, h10⟩, hall⟩ := hb1
      obtain ⟨rr, er⟩ := all_nat hall
      have el : rr.length = m.toNat := by
        have := congrArg List.length er
        rw [ofN_len, List.length_take] at this
        omega
      have em : m = (rr.length : Int) := by
        rw [el]
        exact (Int.toNat_of_nonneg z.1).symm
      rw [er, ofN_len] at h10
      refine ⟨2, [], rr, .row rr, m :: r, .line (.row rr (by omega)), ?_, rfl, rfl, h10, .inr ⟨rfl, rfl, ?_⟩⟩
      · rw [er]
        show some (Su183.Call.row ((ofN rr).map Int.toNat)) = _
        unfold ofN
        rw [List.map_map]
        congr 2
        exact (List.map_congr_left fun a _ => rfl).trans (List.map_id rr)
      · rw [← h2, ← er, List.take_append_drop, ← em]
    · simp only [PyFlat.row, if_neg z] at h
      cases h
theorem call_ok {t t' : List Int} {c : List (List Int)} (h : PyFlat.call PySu183.shape t = some (c, t')) (hb : PyInside.call PySu183.bound c = true) : ∃ cn ns rr cl rest, Call1 t t' c cn ns rr cl rest := by
  cases t with
  | nil => cases h
  | cons p r =>
    by_cases z0 : p = 0
    · subst z0
      exact call_0 h hb
    by_cases z1 : p = 1
    · subst z1
      exact call_1 h hb
    by_cases z2 : p = 2
    · subst z2
      exact call_2 h hb
    by_cases z3 : p = 3
    · subst z3
      exact call_3 h hb
    by_cases z4 : p = 4
    · subst z4
      exact call_4 h hb
    by_cases z5 : p = 5
    · subst z5
      exact call_5 h hb
    by_cases z6 : p = 6
    · subst z6
      exact call_6 h hb
    by_cases z7 : p = 7
    · subst z7
      exact call_7 h hb
    by_cases z8 : p = 8
    · subst z8
      exact call_8 h hb
    by_cases z9 : p = 9
    · subst z9
      exact call_9 h hb
    by_cases z10 : p = 10
    · subst z10
      exact call_10 h hb
    by_cases z11 : p = 11
    · subst z11
      exact call_11 h hb
    by_cases z12 : p = 12
    · subst z12
      exact call_12 h hb
    by_cases z13 : p = 13
    · subst z13
      exact call_13 h hb
    by_cases z14 : p = 14
    · subst z14
      exact call_14 h hb
    by_cases z15 : p = 15
    · subst z15
      exact call_15 h hb
    have e : PySu183.shape p = none := by
      unfold PySu183.shape
      rw [if_neg z0, if_neg z1, if_neg z2, if_neg z3, if_neg z4, if_neg z5, if_neg z6, if_neg z7, if_neg z8, if_neg z9, if_neg z10, if_neg z11, if_neg z12, if_neg z13, if_neg z14, if_neg z15]
    rw [call_eq] at h
    rw [e] at h
    cases h
/-- what is answered to the calls to come -/
def outs (s : Option Abs) (raw : List (List (List Int))) : List Int := PyFlat.told (PyFlat.played (fun s c => Su183Neutral.step s (c.headD [])) s (raw.map PySu183.whole))
theorem outs_cons {s : Option Abs} {c : List (List Int)} {raw : List (List (List Int))} {cl : Su183.Call} (h : Su183Neutral.callOf ((PySu183.whole c).headD []) = some cl) :
    outs s (c :: raw) = (((Su183.step s cl).2.value :: (Su183.step s cl).2.out).length : Int) :: ((Su183.step s cl).2.value :: (Su183.step s cl).2.out) ++ outs (Su183.step s cl).1 raw := by
  have e : Su183Neutral.step s ((PySu183.whole c).headD []) = ((Su183.step s cl).1, (Su183.step s cl).2.value :: (Su183.step s cl).2.out) := by
    unfold Su183Neutral.step
    rw [h]
  show PyFlat.told ((Su183Neutral.step s ((PySu183.whole c).headD [])).2 :: PyFlat.played _ (Su183Neutral.step s ((PySu183.whole c).headD [])).1 (raw.map PySu183.whole)) = _
  rw [e]
  rfl
theorem calls_nil {f : Nat} {raw : List (List (List Int))} (h : PyFlat.calls PySu183.shape f [] = some raw) : raw = [] := by
  cases f <;> exact (Option.some.inj h).symm
theorem calls_cons {f : Nat} {p : Int} {r : List Int} {raw : List (List (List Int))} (h : PyFlat.calls PySu183.shape f (p :: r) = some raw) :
    ∃ f' c t' cs, PyFlat.call PySu183.shape (p :: r) = some (c, t') ∧ PyFlat.calls PySu183.shape f' t' = some cs ∧ raw = c :: cs := by
  cases f with
  | zero => cases h
  | succ f =>
    unfold PyFlat.calls at h
    cases e : PyFlat.call PySu183.shape (p :: r) with
    | none =>
      rw [e] at h
      cases h
    | some ct =>
      obtain ⟨c, t'⟩ := ct
      rw [e] at h
      simp only at h
      cases e2 : PyFlat.calls PySu183.shape f t' with
      | none =>
        rw [e2] at h
        cases h
      | some cs =>
        rw [e2] at h
        exact ⟨f, c, t', cs, rfl, e2, (Option.some.inj h).symm⟩
theorem drop_next {l t : List Int} {x : Int} {i : Nat} (h : l.drop i = x :: t) : l[i]? = some x ∧ l.drop (i + 1) = t ∧ i < l.length := by
  have hi : i < l.length := by
    false_or_by_contra
    rename_i z
    rw [List.drop_of_length_le (by omega)] at h
    cases h
  refine ⟨?_, ?_, hi⟩
  · have := congrArg List.head? h
    rw [List.head?_drop] at this
    exact this
  · have := congrArg List.tail h
    rw [List.tail_drop] at this
    exact this
theorem drop_by {l a b : List Int} {i : Nat} (h : l.drop i = a ++ b) : l.drop (i + a.length) = b := by
  rw [← List.drop_drop, h, List.drop_left]
theorem drop_len {l a b : List Int} {i : Nat} (hi : i ≤ l.length) (h : l.drop i = a ++ b) : i + a.length ≤ l.length := by
  have := congrArg List.length h
  rw [List.length_drop, List.length_append] at this
  omega
/-- calls[i:j] -/
theorem cut_mid {l rest : List Int} {i : Nat} {ns : List Nat} (hi : i ≤ l.length) (h : l.drop i = ofN ns ++ rest) : cutV (intV l) (some (i : Int)) (some ((i + ns.length : Nat) : Int)) = ptsV ns := by
  have hl := drop_len hi h
  rw [ofN_len] at hl
  unfold cutV
  rw [HT.sIx_nat, HT.sIx_nat, intV_len, Nat.min_eq_left hi, Nat.min_eq_left hl]
  have e : (intV l).drop i = ptsV ns ++ intV rest := by
    unfold intV
    rw [← List.map_drop, h, List.map_append]
    congr 1
    exact intV_ofN ns
  rw [e, Nat.add_sub_cancel_left, ← ptsV_length ns, List.take_left]
theorem intV_at {l : List Int} {i : Nat} {x : Int} (h : l[i]? = some x) : (intV l)[i]? = some (.int x) := by
  unfold intV
  rw [List.getElem?_map, h]
  rfl
end FW

namespace FW
open PySem PySem.Spec PyProof.Rows L2
open Su183 (Abs Frac)
open FL (WF Pl)
/-! ## What is locked is no part of a desk -/
def Mv (H H' : Hp) : Prop := ∀ b u, H b = some u → (∀ od w, u ≠ .frz od w) → H' b = some u
theorem Mv.rd {H H' : Hp} (m : Mv H H') {v : V} {r : FL.Rd} (h : RdAt H v r) : RdAt H' v r := by
  obtain ⟨t, q, e, h1, h2⟩ := h
  exact ⟨t, q, e, m _ _ h1 (fun _ _ z => by cases z), m _ _ h2 (fun _ _ z => by cases z)⟩
theorem Mv.cache {H H' : Hp} (m : Mv H H') {v : V} {g : Abs} {k : Nat} (h : CacheAt H v g k) : CacheAt H' v g k := by
  obtain ⟨r, rs, ys, e, h1, h2, h3⟩ := h
  exact ⟨r, rs, ys, e, m _ _ h1 (fun _ _ z => by cases z), Paired.mono (fun _ _ q => m.rd q) h2, h3⟩
theorem Mv.lnd {A : Ad} {H H' : Hp} (m : Mv H H') {a lp fd : Addr} {g : Abs} (h : LnD A H a lp fd g) : LnD A H' a lp fd g := by
  obtain ⟨⟨⟨dx, h1⟩, h2⟩, kvs, h3, f⟩ := h
  refine ⟨⟨⟨dx, m _ _ h1 (fun _ _ z => by cases z)⟩, m _ _ h2 (fun _ _ z => by cases z)⟩, kvs, m _ _ h3 (fun _ _ z => by cases z), ⟨fun j v e => ?_, f.nd⟩⟩
  obtain ⟨k, a, b, c, d⟩ := f.at_ j v e
  exact ⟨k, a, b, c, m.cache d⟩
theorem Mv.dk {A : Ad} {H H' : Hp} (m : Mv H H') {d : Addr} : ∀ {s : Option Abs}, Dk A H d s → Dk A H' d s
  | none, ⟨dx, h⟩ => ⟨dx, m _ _ h (fun _ _ z => by cases z)⟩
  | some g, ⟨dx, a, lp, fd, h⟩ => ⟨dx, a, lp, fd, ⟨m _ _ h.ins (fun _ _ z => by cases z), h.wf, m.lnd h.lnd⟩⟩
theorem Mv.off {H : Hp} {F : Addr} {od : Obj} {u o : HO} (h : H F = some (.frz od u)) : Mv H (L2.upd H F o) := fun b x e n => by
  have nb : b ≠ F := by
    rintro rfl
    rw [h] at e
    exact n _ _ (Option.some.inj e).symm
  rw [upd_ne nb]
  exact e
theorem same_over {H H' : Hp} (s : Same H H') (F : Addr) (o : HO) : Same (L2.upd H F o) (L2.upd H' F o) := fun b u e => by
  by_cases z : b = F
  · subst z
    rw [upd_same] at e ⊢
    exact e
  · rw [upd_ne z] at e ⊢
    exact s _ _ e
theorem SameLT.upd {H H' : Hp} {F : Addr} {o : HO} (s : SameLT H H') (h : H F = none) : SameLT H (L2.upd H' F o) := fun b u e c => by
  rw [upd_ne (ne_of_none e h)]
  exact s b u e c
theorem ite_joinK {c : Prop} [Decidable c] {A' : Prop} {KK : L2.St → Hp → Prop} {s2 : L2.St} {H2 : Hp} (good : L2.St → Hp → Prop) (h1 : c → (∀ σ H, good σ H → KK σ H) → A') (h2 : ¬ c → good s2 H2) (k : ∀ σ H, good σ H → KK σ H) : if c then A' else KK s2 H2 := by
  by_cases h : c
  · rw [if_pos h]
    exact h1 h k
  · rw [if_neg h]
    exact k _ _ (h2 h)
section
variable {P : Program} {w : World} {K : PySem.W.Frag} {mg : Str → Option Value} {base : Heap} {A : Ad}

/-! ## answers -/
def spAns (K : PySem.W.Frag) : Sp := fun vs H Q _ => ∃ (a : Addr) (xs : List Int) (raw : List (List (List Int))) (f : Nat), vs = [.ref a] ∧ SqL K H a (intV xs) ∧ PyFlat.calls PySu183.shape f xs = some raw ∧ (∀ c ∈ raw, PyInside.call PySu183.bound c = true) ∧ (outs none raw).length ≤ 10000000 ∧
  ∀ H' p, H' p = some (.lst (intV (outs none raw))) → Q (.ref p) H'
theorem sc_answers : FnScope ["calls", "desk", "found", "at", "call", "behind", "n", "points", "end", "some"] ["calls"] (defScope s_answers) := ⟨rfl, rfl, rfl, by decide +kernel, rfl, by decide +kernel, by decide +kernel⟩
structure AInv (K : PySem.W.Frag) (A : Ad) (H : Hp) (a d F : Addr) (xs total : List Int) (m : Nat) (σ : L2.St) (H' : Hp) (i : Nat) (s : Option Abs) (raw : List (List (List Int))) (f : Nat) (out : List Int) : Prop where
  m : m = xs.length - i
  hi : i ≤ xs.length
  st : ∃ v4 v5 v6 v7 v8 v9, σ = [some (.ref a), some (.ref d), some (.ref F), some (.int (i : Int)), v4, v5, v6, v7, v8, v9]
  lt : SameLT H H'
  at_ : H' F = some (.lst (intV out))
  dk : ∀ o, Dk A (L2.upd H' F o) d s
  calls : PyFlat.calls PySu183.shape f (xs.drop i) = some raw
  bound : ∀ c ∈ raw, PyInside.call PySu183.bound c = true
  out : out ++ outs s raw = total
theorem nums_at {cn k : Nat} (h : numsN[cn]? = some k) : ([1, 2, 0, 2, 3, 2, 2, 1, 0, 1, 2, 2, 2, 1, 0, 0].map V.int)[cn]? = some (.int (k : Int)) := by
  have e : ([1, 2, 0, 2, 3, 2, 2, 1, 0, 1, 2, 2, 2, 1, 0, 0].map V.int) = numsN.map fun (v : Nat) => V.int (v : Int) := rfl
  rw [e, List.getElem?_map, h]
  rfl
theorem ok_answers (T : Txt K mg A) : FnOk P w K mg base CX0 13 A.answers.a A.answers.d ["calls"] (spAns K) := by
  refine T.answers.fn.ok sc_answers (fun vs H Q E h => ?_) (fun cdv Bo outer sh H vs Q E hr h => ?_)
  · obtain ⟨a, xs, raw, f, rfl, _⟩ := h
    rfl
  · obtain ⟨a, xs, raw0, f0, rfl, hS, hc0, hb0, hlen, kk⟩ := h
    obtain ⟨t1, c1⟩ := T.c_ROW
    refine ⟨_, pss_cons (ps_set (i := 1) sc_answers.nd rfl (.inl rfl) (pe_make0 T.mkD (ok_d_init T) (hr.mono (by decide)) (by rfl) T.gD T.d_init.b .nil pass0))
      (pss_cons (ps_set (i := 2) sc_answers.nd rfl (.inl rfl) (pe_lst pa_nil))
      (pss_cons (ps_set (i := 3) sc_answers.nd rfl (.inl rfl) pe_int)
      (pss_cons (ps_while PassesOwn.never (pt_cmpR op_lt (pv 3) (pe_callB call_len_seq (by rfl) T.b_len PySem.boot_len (pa_cons (pv 0) pa_nil)) (nomark _))
        (pss_cons (ps_set (i := 4) sc_answers.nd rfl (.inl rfl) (pe_ix ix_list (pv 0) (pv 3) (fun _ _ => rfl)))
        (pss_cons (ps_set (i := 5) sc_answers.nd rfl (.inl rfl) (pe_op op_add (pe_op op_add (pv 3) pe_int) (pe_ix ix_tup (pe_glob (v := .ref A.nums) (by rfl) T.gN rfl) (pv 4) (fun _ _ => rfl))))
        (pss_cons (ps_par (i := 6) (j := 7) (by rfl) sc_answers.nd rfl rfl (by decide) rfl rfl (pa_cons (pe_slice sl_list (pv 0) (po_some (pe_op op_add (pv 3) pe_int)) (po_some (pv 5))) (pa_cons (pe_lst pa_nil) pa_nil)) (by rfl))
        (pss_cons (ps_if (pt_cmpR op_eq (pv 4) (pe_glob (v := .int 2) (by rfl) c1 ⟨_, rfl⟩) (nomark _))
            (pss_cons (ps_set (i := 8) sc_answers.nd rfl (.inl rfl) (pe_op op_add (pe_op op_add (pv 5) pe_int) (pe_ix ix_list (pv 0) (pv 5) (fun _ _ => rfl))))
            (pss_cons (ps_set (i := 7) sc_answers.nd rfl (.inl rfl) (pe_slice sl_list (pv 0) (po_some (pe_op op_add (pv 5) pe_int)) (po_some (pv 8))))
            (pss_one (ps_set (i := 5) sc_answers.nd rfl (.inl rfl) (pv 8))))) pss_nil)
        (pss_cons (ps_set (i := 9) sc_answers.nd rfl (.inl rfl) (pe_lock (pe_call (ok_answered T) hr (by rfl) T.answered.mg T.answered.fn.kp T.answered.b .nil pass0 (pa_cons (pv 1) (pa_cons (pv 4) (pa_cons (pv 6) (pa_cons (pv 7) pa_nil)))))))
        (pss_cons (ps_expr (pe_bm PySem.F.plainAttrs_list PySem.F.slot_list_append PySem.F.type_list_append mt_append (pv 2) (pa_cons (pe_callB call_len_seq (by rfl) T.b_len PySem.boot_len (pa_cons (pv 9) pa_nil)) pa_nil)))
        (pss_cons (ps_expr (pe_bm PySem.F.plainAttrs_list PySem.F.slot_list_extend PySem.F.type_list_extend mt_extend (pv 2) (pa_cons (pv 9) pa_nil)))
        (pss_one (ps_set (i := 3) sc_answers.nd rfl (.inl rfl) (pv 5)))))))))))
      (pss_one (ps_ret (pv 2)))))), ?_⟩
    intro d dxd nd ndx nex
    refine ⟨d, dxd, rfl, upd_same, rfl, ?_⟩
    refine ⟨line_le (Nat.zero_le _), fun F hF0 => ?_⟩
    have hF : H F = none := by
      have n1 : F ≠ d := by
        rintro rfl
        rw [upd_same] at hF0
        cases hF0
      rw [upd_ne n1, upd_ne n1] at hF0
      have n2 : F ≠ dxd := by
        rintro rfl
        rw [upd_same] at hF0
        cases hF0
      rw [upd_ne n2] at hF0
      exact hF0
    refine ⟨fun m σ H' => ∃ i s raw f out, AInv K A H a d F xs (outs none raw0) m σ H' i s raw f out, ⟨xs.length, 0, none, raw0, f0, [], ?_⟩, ?_⟩
    · refine ⟨(Nat.sub_zero _).symm, Nat.zero_le _, ⟨none, none, none, none, none, none, rfl⟩, ?_, upd_same, fun o => ⟨dxd, ?_⟩, hc0, hb0, rfl⟩
      · refine SameLT.upd ?_ hF
        exact .of (same_upd (same_upd (same_new ndx) nd) nd)
      · have n1 : d ≠ F := ne_of_none upd_same hF0
        rw [upd_ne n1, upd_ne n1, upd_same]
    · rintro m σ H' ⟨i, s, raw, f, out, I⟩
      obtain ⟨v4, v5, v6, v7, v8, v9, rfl⟩ := I.st
      have sq := I.lt.seq hS
      refine ⟨_, rfl, _, rfl, a, _, rfl, .inl sq, _, _, rfl, rfl, _, rfl, ?_⟩
      refine ite2 (fun c => ?_) (fun c => ?_)
      · have c' : (i : Int) < ((intV xs).length : Int) := of_decide_eq_true c
        rw [intV_len] at c'
        have hi : i < xs.length := by omega
        refine ⟨_, fun _ _ q => q, ?_⟩
        cases hd0 : xs.drop i with
        | nil =>
          exfalso
          have := congrArg List.length hd0
          rw [List.length_drop] at this
          simp at this
          omega
        | cons p0 r0 =>
        have hc := I.calls
        rw [hd0] at hc
        obtain ⟨f', cc, t', cs, h1, h2, rfl⟩ := calls_cons hc
        obtain ⟨cn, ns, rr, cl, rest, q⟩ := call_ok h1 (I.bound _ List.mem_cons_self)
        have hd : xs.drop i = (cn : Int) :: (ofN ns ++ rest) := hd0.trans q.at_
        obtain ⟨e1, e2, _⟩ := drop_next hd
        have hj := drop_len (by omega : i + 1 ≤ xs.length) e2
        have hr1 := drop_by e2
        rw [ofN_len] at hj hr1
        have eb : (i : Int) + 1 + (ns.length : Int) = ((i + 1 + ns.length : Nat) : Int) := by push_cast; rfl
        have ea : (i : Int) + 1 = ((i + 1 : Nat) : Int) := by push_cast; rfl
        -- call, behind
        refine ⟨_, rfl, _, rfl, a, _, _, _, rfl, rfl, sq, atI_nat (j := i) (intV_at e1), ?_⟩
        refine ⟨_, rfl, _, _, rfl, rfl, _, rfl, A.nums, _, _, _, rfl, rfl, T.tN _, atI_nat (j := cn) (nums_at q.nums), _, _, rfl, rfl, ?_⟩
        -- n, points
        refine ⟨_, rfl, _, rfl, _, _, rfl, rfl, _, rfl, _, rfl, _, rfl, a, _, rfl, sq, fun p1 hp1 => ?_⟩
        refine ⟨line_le (Nat.zero_le _), fun p2 hp2 => ?_⟩
        refine ⟨_, _, rfl, ?_⟩
        have ec : cutV (intV xs) (some ((i : Int) + 1)) (some ((i : Int) + 1 + (ns.length : Int))) = ptsV ns := by
          rw [eb, ea]
          exact cut_mid (by omega) e2
        rw [ec] at hp2
        have hn12 : p1 ≠ p2 := ne_of_none upd_same hp2
        have s2 := (same_new (o := .lst (ptsV ns)) hp1).trans (same_new (o := .lst []) hp2)
        rw [ec]
        have sq2 := s2.seq sq
        -- the row
        refine ⟨_, rfl, rfl, _, rfl, ite_joinK (fun σ H3 => ∃ (pl : Addr) (v8 : Option V) (j : Nat), σ = [some (.ref a), some (.ref d), some (.ref F), some (.int (i : Int)), some (.int (cn : Int)), some (.int (j : Int)), some (.ref p1), some (.ref pl), v8, v9] ∧
          Same H' H3 ∧ H3 p1 = some (.lst (ptsV ns)) ∧ H3 pl = some (.lst (ptsV rr)) ∧ xs.drop j = t' ∧ j ≤ xs.length ∧ i < j ∧ H' pl = none) (fun z k => ?_) (fun z => ?_) ?_⟩
        · have z' : cn = 2 := by
            have := of_decide_eq_true z
            injection this with this
            omega
          rcases q.row with ⟨y, _⟩ | ⟨_, _, er⟩
          · exact absurd z' y
          · rw [er] at hr1
            obtain ⟨e3, e4, hj2⟩ := drop_next hr1
            have hj3 := drop_len (by omega : i + 1 + ns.length + 1 ≤ xs.length) e4
            have hr2 := drop_by e4
            rw [ofN_len] at hj3 hr2
            have eb2 : (i : Int) + 1 + (ns.length : Int) + 1 = ((i + 1 + ns.length + 1 : Nat) : Int) := by push_cast; rfl
            have ee : (i : Int) + 1 + (ns.length : Int) + 1 + (rr.length : Int) = ((i + 1 + ns.length + 1 + rr.length : Nat) : Int) := by push_cast; rfl
            refine ⟨_, rfl, _, _, rfl, rfl, _, rfl, _, rfl, a, _, _, _, rfl, rfl, sq2, (by rw [eb]; exact atI_nat (intV_at e3)), _, _, rfl, rfl, ?_⟩
            refine ⟨_, rfl, _, rfl, _, _, rfl, rfl, _, rfl, _, rfl, _, rfl, a, _, rfl, sq2, fun p4 hp4 => ?_⟩
            have ec2 : cutV (intV xs) (some ((i : Int) + 1 + (ns.length : Int) + 1)) (some ((i : Int) + 1 + (ns.length : Int) + 1 + (rr.length : Int))) = ptsV rr := by
              rw [ee, eb2]
              exact cut_mid (by omega) e4
            rw [ec2]
            have s4 := s2.trans (same_new (o := .lst (ptsV rr)) hp4)
            refine ⟨_, rfl, k _ _ ⟨p4, some (.int ((i + 1 + ns.length + 1 + rr.length : Nat) : Int)), i + 1 + ns.length + 1 + rr.length, ?_, s4, ?_, upd_same, hr2, hj3, by omega, s2.free hp4⟩⟩
            · rw [← ee]
              rfl
            · have n14 : p1 ≠ p4 := ne_of_none (show L2.upd (L2.upd H' p1 (.lst (ptsV ns))) p2 (.lst []) p1 = some (.lst (ptsV ns)) by rw [upd_ne hn12, upd_same]) hp4
              rw [upd_ne n14, upd_ne hn12, upd_same]
        · have z' : cn ≠ 2 := fun y => z (by rw [y]; exact decide_eq_true rfl)
          rcases q.row with ⟨_, er, et⟩ | ⟨y, _⟩
          · refine ⟨p2, v8, i + 1 + ns.length, ?_, s2, by rw [upd_ne hn12, upd_same], by rw [upd_same, er]; rfl, by rw [hr1, et], hj, by omega, (same_new hp1).free hp2⟩
            rw [← eb]
            rfl
          · exact absurd y z'
        · rintro σ H3 ⟨pl, v8', j, rfl, s3, hn3, hp3, hdj, hj3, hij, hpl⟩
          have lt3 := I.lt.trans (.of s3)
          have hF3 := s3 _ _ I.at_
          -- the call
          refine ⟨F, .lst (intV out), hF3, trivial, fun od => ?_⟩
          have nf1 : p1 ≠ F := (ne_of_none I.at_ hp1).symm
          have nf2 : pl ≠ F := (ne_of_none I.at_ hpl).symm
          have dk3 : ∀ o, Dk A (L2.upd H3 F o) d s := fun o => (I.dk o).same (same_over s3 F o)
          refine ⟨_, rfl, _, rfl, _, rfl, _, rfl, d, p1, pl, s, cn, ns, rr, cl, rfl, dk3 _, by rw [upd_ne nf1]; exact hn3, by rw [upd_ne nf2]; exact hp3, q.tc, fun p H4 lt4 dk4 _ h4 => ?_⟩
          have hF4 : H4 F = some (.frz od (.lst (intV out))) := lt4 _ _ upd_same (.inr (.inr ⟨_, _, rfl⟩))
          have nfp : p ≠ F := ne_of h4 hF4 (by intro y; cases y)
          refine ⟨hF4, ?_⟩
          have ho := I.out
          rw [outs_cons q.of] at ho
          have hlo := congrArg List.length ho
          rw [List.length_append, List.length_append, List.length_cons] at hlo
          -- append, extend
          refine ⟨_, rfl, .inl ⟨rfl, _, SqL.of upd_same⟩, _, rfl, p, _, rfl, .inl (SqL.of (by rw [upd_ne nfp]; exact h4)), F, _, _, rfl, rfl, upd_same, line_lt (by rw [intV_len]; omega), ?_⟩
          refine ⟨_, rfl, .inl ⟨rfl, _, SqL.of upd_same⟩, _, rfl, F, p, _, _, rfl, rfl, upd_same, by rw [upd_ne nfp, upd_ne nfp]; exact h4, line_le (by rw [List.length_append, intV_len, intV_len]; show _ + 1 + _ ≤ 16777216; omega), ?_⟩
          refine ⟨_, rfl, xs.length - j, by have := I.m; omega, j, (Su183.step s cl).1, cs, f', out ++ ((((Su183.step s cl).2.value :: (Su183.step s cl).2.out).length : Int) :: ((Su183.step s cl).2.value :: (Su183.step s cl).2.out)), ⟨rfl, hj3, ⟨_, _, _, _, _, _, rfl⟩, ?_, ?_, fun o => ?_, by rw [hdj]; exact h2, fun c hc => I.bound c (List.mem_cons_of_mem _ hc), by rw [List.append_assoc]; exact ho⟩⟩
          · refine SameLT.upd (SameLT.upd (SameLT.upd ?_ hF) hF) hF
            refine SameLT.trans (lt3.upd hF) lt4
          · rw [upd_same, intV_append]
            rw [List.append_assoc, intV_len]
            rfl
          · rw [upd_upd, upd_upd, upd_upd]
            exact (Mv.off hF4).dk dk4
      · have c' : ¬ (i : Int) < ((intV xs).length : Int) := fun z => c (decide_eq_true z)
        rw [intV_len] at c'
        have hi := I.hi
        have ei : i = xs.length := by omega
        have hc := I.calls
        rw [ei, List.drop_length] at hc
        have er := calls_nil hc
        have ho := I.out
        rw [er] at ho
        have e0 : outs s [] = [] := rfl
        rw [e0, List.append_nil] at ho
        refine ⟨_, rfl, kk H' F ?_⟩
        rw [I.at_, ho]
end
end FW

namespace FW
open PySem PySem.Spec PyProof.Rows L2
/-- an own error's class is what its clause names -/
theorem own_named {K : PySem.W.Frag} {S : Addr} (h1 : PySem.W.subIn K (.ref S) (.type "BaseException") = some true) (h2 : PySem.W.isClsIn K S = true) (h3 : PySem.W.typeIn K (.ref S) = some (.type "type")) (h4 : PySem.W.subIn K (.ref S) (.ref S) = some true) :
    PySem.W.exmOne K (.ref S) (.ref S) = some true := by
  have e1 : (PySem.W.subIn K (.ref S) (.type "BaseException") == some true) = true := by rw [h1] <;> rfl
  have e2 : ((PySem.W.clsIn K S).isSome && PySem.W.typeIn K (.ref S) == some (.type "type")) = true := by
    have h2' : (PySem.W.clsIn K S).isSome = true := h2
    rw [h2', h3] <;> rfl
  show (if (PySem.W.subIn K (.ref S) (.type "BaseException") == some true) = true then (if ((PySem.W.clsIn K S).isSome && PySem.W.typeIn K (.ref S) == some (.type "type")) = true then PySem.W.subIn K (.ref S) (.ref S) else none) else none) = some true
  rw [if_pos e1, if_pos e2]
  exact h4
section
variable {P : Program} {w : World} {K : PySem.W.Frag} {mg : Str → Option Value} {h : Heap}
theorem gf_mk {x : Str} {st : Stmt} {ps : List Str} {f : Addr} {oc kV dc pm cd ct : Value} {od an : Option Addr} {sl : Array (Option Value)} (X : K.In h) (G : h.Ns mainGlobals mg)
    (a : PySem.W.nsIn K mainGlobals x = some (some (.ref f))) (l : K.lookup f = some ⟨oc, od, .func (PySem.W.fnOf x x (defArgs st) (defBody st) (defScope st) .none kV dc pm an cd ct), sl⟩) (c : PySem.W.codeIn K cd x = true) (k : PySem.W.keepIn K (.ref f) = true)
    (b : ∀ (kV doc pm : Value) (an : Option Addr) (cdv ct : Value) (us : List Value), us.length = ps.length → bindArgs (PySem.W.fnOf x x (defArgs st) (defBody st) (defScope st) .none kV doc pm an cdv ct) ⟨us, []⟩ = pure (ps.zip us)) :
    Gf K mg x st ps ⟨f, PySem.W.fnOf x x (defArgs st) (defBody st) (defScope st) .none kV dc pm an cd ct⟩ := ⟨PySem.W.mg_of X G a, fun_mk l c k, (fun_mk l c k).binds b⟩
theorem mf_mk {C : Addr} {x q : Str} {st : Stmt} {ps : List Str} {f : Addr} {oc kV dc pm cd ct : Value} {od an : Option Addr} {sl : Array (Option Value)}
    (a : PySem.W.findIn K (.ref C) x = some (some (.ref f))) (i : PySem.W.isFn K (.ref f) = true) (l : K.lookup f = some ⟨oc, od, .func (PySem.W.fnOf x q (defArgs st) (defBody st) (defScope st) .none kV dc pm an cd ct), sl⟩) (c : PySem.W.codeIn K cd q = true) (k : PySem.W.keepIn K (.ref f) = true)
    (b : ∀ (kV doc pm : Value) (an : Option Addr) (cdv ct : Value) (us : List Value), us.length = ps.length → bindArgs (PySem.W.fnOf x q (defArgs st) (defBody st) (defScope st) .none kV doc pm an cdv ct) ⟨us, []⟩ = pure (ps.zip us)) :
    Mf K C x q st ps ⟨f, PySem.W.fnOf x q (defArgs st) (defBody st) (defScope st) .none kV dc pm an cd ct⟩ := ⟨⟨a, i, k⟩, fun_mk l c k, (fun_mk l c k).binds b⟩
theorem all_mk {fa : Addr} (X : K.In h) (G : h.Ns mainGlobals mg) (hfa : mg "answers" = some (.ref fa))
    {cL : Addr}
    {cD : Addr}
    {cR : Addr}
    {f_divisor_of : Addr} {oc_divisor_of kV_divisor_of dc_divisor_of pm_divisor_of cd_divisor_of ct_divisor_of : Value} {od_divisor_of an_divisor_of : Option Addr} {sl_divisor_of : Array (Option Value)}
    {f_fraction : Addr} {oc_fraction kV_fraction dc_fraction pm_fraction cd_fraction ct_fraction : Value} {od_fraction an_fraction : Option Addr} {sl_fraction : Array (Option Value)}
    {f_parted : Addr} {oc_parted kV_parted dc_parted pm_parted cd_parted ct_parted : Value} {od_parted an_parted : Option Addr} {sl_parted : Array (Option Value)}
    {f_brings : Addr} {oc_brings kV_brings dc_brings pm_brings cd_brings ct_brings : Value} {od_brings an_brings : Option Addr} {sl_brings : Array (Option Value)}
    {f_longer_walks : Addr} {oc_longer_walks kV_longer_walks dc_longer_walks pm_longer_walks cd_longer_walks ct_longer_walks : Value} {od_longer_walks an_longer_walks : Option Addr} {sl_longer_walks : Array (Option Value)}
    {f_is_least_turn : Addr} {oc_is_least_turn kV_is_least_turn dc_is_least_turn pm_is_least_turn cd_is_least_turn ct_is_least_turn : Value} {od_is_least_turn an_is_least_turn : Option Addr} {sl_is_least_turn : Array (Option Value)}
    {f_closed_walks : Addr} {oc_closed_walks kV_closed_walks dc_closed_walks pm_closed_walks cd_closed_walks ct_closed_walks : Value} {od_closed_walks an_closed_walks : Option Addr} {sl_closed_walks : Array (Option Value)}
    {f_factor_and_more : Addr} {oc_factor_and_more kV_factor_and_more dc_factor_and_more pm_factor_and_more cd_factor_and_more ct_factor_and_more : Value} {od_factor_and_more an_factor_and_more : Option Addr} {sl_factor_and_more : Array (Option Value)}
    {f_round_of : Addr} {oc_round_of kV_round_of dc_round_of pm_round_of cd_round_of ct_round_of : Value} {od_round_of an_round_of : Option Addr} {sl_round_of : Array (Option Value)}
    {f_from_least : Addr} {oc_from_least kV_from_least dc_from_least pm_from_least cd_from_least ct_from_least : Value} {od_from_least an_from_least : Option Addr} {sl_from_least : Array (Option Value)}
    {f_point_rounds : Addr} {oc_point_rounds kV_point_rounds dc_point_rounds pm_point_rounds cd_point_rounds ct_point_rounds : Value} {od_point_rounds an_point_rounds : Option Addr} {sl_point_rounds : Array (Option Value)}
    {f_steps_of_all : Addr} {oc_steps_of_all kV_steps_of_all dc_steps_of_all pm_steps_of_all cd_steps_of_all ct_steps_of_all : Value} {od_steps_of_all an_steps_of_all : Option Addr} {sl_steps_of_all : Array (Option Value)}
    {f_is_endless : Addr} {oc_is_endless kV_is_endless dc_is_endless pm_is_endless cd_is_endless ct_is_endless : Value} {od_is_endless an_is_endless : Option Addr} {sl_is_endless : Array (Option Value)}
    {f_key_of : Addr} {oc_key_of kV_key_of dc_key_of pm_key_of cd_key_of ct_key_of : Value} {od_key_of an_key_of : Option Addr} {sl_key_of : Array (Option Value)}
    {f_all_rounds : Addr} {oc_all_rounds kV_all_rounds dc_all_rounds pm_all_rounds cd_all_rounds ct_all_rounds : Value} {od_all_rounds an_all_rounds : Option Addr} {sl_all_rounds : Array (Option Value)}
    {f_has_round : Addr} {oc_has_round kV_has_round dc_has_round pm_has_round cd_has_round ct_has_round : Value} {od_has_round an_has_round : Option Addr} {sl_has_round : Array (Option Value)}
    {f_want : Addr} {oc_want kV_want dc_want pm_want cd_want ct_want : Value} {od_want an_want : Option Addr} {sl_want : Array (Option Value)}
    {f_want_steps : Addr} {oc_want_steps kV_want_steps dc_want_steps pm_want_steps cd_want_steps ct_want_steps : Value} {od_want_steps an_want_steps : Option Addr} {sl_want_steps : Array (Option Value)}
    {f_ranks_of : Addr} {oc_ranks_of kV_ranks_of dc_ranks_of pm_ranks_of cd_ranks_of ct_ranks_of : Value} {od_ranks_of an_ranks_of : Option Addr} {sl_ranks_of : Array (Option Value)}
    {f_do_brings : Addr} {oc_do_brings kV_do_brings dc_do_brings pm_do_brings cd_do_brings ct_do_brings : Value} {od_do_brings an_do_brings : Option Addr} {sl_do_brings : Array (Option Value)}
    {f_of_line : Addr} {oc_of_line kV_of_line dc_of_line pm_of_line cd_of_line ct_of_line : Value} {od_of_line an_of_line : Option Addr} {sl_of_line : Array (Option Value)}
    {f_of_rounds : Addr} {oc_of_rounds kV_of_rounds dc_of_rounds pm_of_rounds cd_of_rounds ct_of_rounds : Value} {od_of_rounds an_of_rounds : Option Addr} {sl_of_rounds : Array (Option Value)}
    {f_told : Addr} {oc_told kV_told dc_told pm_told cd_told ct_told : Value} {od_told an_told : Option Addr} {sl_told : Array (Option Value)}
    {f_answered : Addr} {oc_answered kV_answered dc_answered pm_answered cd_answered ct_answered : Value} {od_answered an_answered : Option Addr} {sl_answered : Array (Option Value)}
    {f_answers : Addr} {oc_answers kV_answers dc_answers pm_answers cd_answers ct_answers : Value} {od_answers an_answers : Option Addr} {sl_answers : Array (Option Value)}
    {f_l_init : Addr} {oc_l_init kV_l_init dc_l_init pm_l_init cd_l_init ct_l_init : Value} {od_l_init an_l_init : Option Addr} {sl_l_init : Array (Option Value)}
    {f_l_many : Addr} {oc_l_many kV_l_many dc_l_many pm_l_many cd_l_many ct_l_many : Value} {od_l_many an_l_many : Option Addr} {sl_l_many : Array (Option Value)}
    {f_l_slope : Addr} {oc_l_slope kV_l_slope dc_l_slope pm_l_slope cd_l_slope ct_l_slope : Value} {od_l_slope an_l_slope : Option Addr} {sl_l_slope : Array (Option Value)}
    {f_l_covers : Addr} {oc_l_covers kV_l_covers dc_l_covers pm_l_covers cd_l_covers ct_l_covers : Value} {od_l_covers an_l_covers : Option Addr} {sl_l_covers : Array (Option Value)}
    {f_l_covered : Addr} {oc_l_covered kV_l_covered dc_l_covered pm_l_covered cd_l_covered ct_l_covered : Value} {od_l_covered an_l_covered : Option Addr} {sl_l_covered : Array (Option Value)}
    {f_l_put : Addr} {oc_l_put kV_l_put dc_l_put pm_l_put cd_l_put ct_l_put : Value} {od_l_put an_l_put : Option Addr} {sl_l_put : Array (Option Value)}
    {f_l_way : Addr} {oc_l_way kV_l_way dc_l_way pm_l_way cd_l_way ct_l_way : Value} {od_l_way an_l_way : Option Addr} {sl_l_way : Array (Option Value)}
    {f_l_comes : Addr} {oc_l_comes kV_l_comes dc_l_comes pm_l_comes cd_l_comes ct_l_comes : Value} {od_l_comes an_l_comes : Option Addr} {sl_l_comes : Array (Option Value)}
    {f_l_turned : Addr} {oc_l_turned kV_l_turned dc_l_turned pm_l_turned cd_l_turned ct_l_turned : Value} {od_l_turned an_l_turned : Option Addr} {sl_l_turned : Array (Option Value)}
    {f_d_init : Addr} {oc_d_init kV_d_init dc_d_init pm_d_init cd_d_init ct_d_init : Value} {od_d_init an_d_init : Option Addr} {sl_d_init : Array (Option Value)}
    {f_d_line : Addr} {oc_d_line kV_d_line dc_d_line pm_d_line cd_d_line ct_d_line : Value} {od_d_line an_d_line : Option Addr} {sl_d_line : Array (Option Value)}
    {f_d_begin : Addr} {oc_d_begin kV_d_begin dc_d_begin pm_d_begin cd_d_begin ct_d_begin : Value} {od_d_begin an_d_begin : Option Addr} {sl_d_begin : Array (Option Value)}
    {f_d_set_point : Addr} {oc_d_set_point kV_d_set_point dc_d_set_point pm_d_set_point cd_d_set_point ct_d_set_point : Value} {od_d_set_point an_d_set_point : Option Addr} {sl_d_set_point : Array (Option Value)}
    {f_d_set_row : Addr} {oc_d_set_row kV_d_set_row dc_d_set_row pm_d_set_row cd_d_set_row ct_d_set_row : Value} {od_d_set_row an_d_set_row : Option Addr} {sl_d_set_row : Array (Option Value)}
    {f_d_place : Addr} {oc_d_place kV_d_place dc_d_place pm_d_place cd_d_place ct_d_place : Value} {od_d_place an_d_place : Option Addr} {sl_d_place : Array (Option Value)}
    {f_d_want_piece : Addr} {oc_d_want_piece kV_d_want_piece dc_d_want_piece pm_d_want_piece cd_d_want_piece ct_d_want_piece : Value} {od_d_want_piece an_d_want_piece : Option Addr} {sl_d_want_piece : Array (Option Value)}
    {f_d_put : Addr} {oc_d_put kV_d_put dc_d_put pm_d_put cd_d_put ct_d_put : Value} {od_d_put an_d_put : Option Addr} {sl_d_put : Array (Option Value)}
    {f_d_way : Addr} {oc_d_way kV_d_way dc_d_way pm_d_way cd_d_way ct_d_way : Value} {od_d_way an_d_way : Option Addr} {sl_d_way : Array (Option Value)}
    {f_d_comes : Addr} {oc_d_comes kV_d_comes dc_d_comes pm_d_comes cd_d_comes ct_d_comes : Value} {od_d_comes an_d_comes : Option Addr} {sl_d_comes : Array (Option Value)}
    {f_d_covers : Addr} {oc_d_covers kV_d_covers dc_d_covers pm_d_covers cd_d_covers ct_d_covers : Value} {od_d_covers an_d_covers : Option Addr} {sl_d_covers : Array (Option Value)}
    {f_d_has : Addr} {oc_d_has kV_d_has dc_d_has pm_d_has cd_d_has ct_d_has : Value} {od_d_has an_d_has : Option Addr} {sl_d_has : Array (Option Value)}
    {f_d_which : Addr} {oc_d_which kV_d_which dc_d_which pm_d_which cd_d_which ct_d_which : Value} {od_d_which an_d_which : Option Addr} {sl_d_which : Array (Option Value)}
    {f_d_rounds_of : Addr} {oc_d_rounds_of kV_d_rounds_of dc_d_rounds_of pm_d_rounds_of cd_d_rounds_of ct_d_rounds_of : Value} {od_d_rounds_of an_d_rounds_of : Option Addr} {sl_d_rounds_of : Array (Option Value)}
    {f_d_rounds : Addr} {oc_d_rounds kV_d_rounds dc_d_rounds pm_d_rounds cd_d_rounds ct_d_rounds : Value} {od_d_rounds an_d_rounds : Option Addr} {sl_d_rounds : Array (Option Value)}
    {f_d_round_at : Addr} {oc_d_round_at kV_d_round_at dc_d_round_at pm_d_round_at cd_d_round_at ct_d_round_at : Value} {od_d_round_at an_d_round_at : Option Addr} {sl_d_round_at : Array (Option Value)}
    {f_d_round : Addr} {oc_d_round kV_d_round dc_d_round pm_d_round cd_d_round ct_d_round : Value} {od_d_round an_d_round : Option Addr} {sl_d_round : Array (Option Value)}
    {f_d_type_of : Addr} {oc_d_type_of kV_d_type_of dc_d_type_of pm_d_type_of cd_d_type_of ct_d_type_of : Value} {od_d_type_of an_d_type_of : Option Addr} {sl_d_type_of : Array (Option Value)}
    {f_d_slope : Addr} {oc_d_slope kV_d_slope dc_d_slope pm_d_slope cd_d_slope ct_d_slope : Value} {od_d_slope an_d_slope : Option Addr} {sl_d_slope : Array (Option Value)}
    {f_d_turn : Addr} {oc_d_turn kV_d_turn dc_d_turn pm_d_turn cd_d_turn ct_d_turn : Value} {od_d_turn an_d_turn : Option Addr} {sl_d_turn : Array (Option Value)}
    {f_d_state : Addr} {oc_d_state kV_d_state dc_d_state pm_d_state cd_d_state ct_d_state : Value} {od_d_state an_d_state : Option Addr} {sl_d_state : Array (Option Value)}
    {f_r_init : Addr} {oc_r_init kV_r_init dc_r_init pm_r_init cd_r_init ct_r_init : Value} {od_r_init an_r_init : Option Addr} {sl_r_init : Array (Option Value)}
    {nm_r q_r : Str} {N_r : Addr} {bs_r : List Value} {sn_r : List Str} {sub_r : List Value} {ab_r : Bool} {col_r : Option Bool} {dd_r : Option Addr} {m0_r m1_r m2_r m3_r m5_r : Option Value}
    {nA : Addr} {odN : Option Addr} {nN : Nat} {slN : Array (Option Value)} {u0 u1 u2 u3 u4 u5 u6 u7 u8 u9 u10 u11 u12 u13 u14 u15 : Tok}
    {t_MOST_STEPS : Tok}
    {t_SCALE : Tok}
    {t_NO_SUCH : Tok}
    {t_NOT_BEGUN : Tok}
    {t_NOT_AS_TOLD : Tok}
    {t_NO_MORE : Tok}
    {t_ENDLESS : Tok}
    {t_MOST_PIECES : Tok}
    {t_MOST_BELOW : Tok}
    {t_MOST_IN_WAY : Tok}
    {t_MOST_BROUGHT : Tok}
    {t_ROW : Tok}
    (g_cL : PySem.W.nsIn K mainGlobals "Line" = some (some (.ref cL)))
    (g_cD : PySem.W.nsIn K mainGlobals "Desk" = some (some (.ref cD)))
    (g_cR : PySem.W.nsIn K mainGlobals "Refused" = some (some (.ref cR)))
    (a_divisor_of : PySem.W.nsIn K mainGlobals "divisor_of" = some (some (.ref f_divisor_of)))
    (l_divisor_of : K.lookup f_divisor_of = some ⟨oc_divisor_of, od_divisor_of, .func (PySem.W.fnOf "divisor_of" "divisor_of" (defArgs s_divisor_of) (defBody s_divisor_of) (defScope s_divisor_of) .none kV_divisor_of dc_divisor_of pm_divisor_of an_divisor_of cd_divisor_of ct_divisor_of), sl_divisor_of⟩)
    (c_divisor_of : PySem.W.codeIn K cd_divisor_of "divisor_of" = true)
    (k_divisor_of : PySem.W.keepIn K (.ref f_divisor_of) = true)
    (a_fraction : PySem.W.nsIn K mainGlobals "fraction" = some (some (.ref f_fraction)))
    (l_fraction : K.lookup f_fraction = some ⟨oc_fraction, od_fraction, .func (PySem.W.fnOf "fraction" "fraction" (defArgs s_fraction) (defBody s_fraction) (defScope s_fraction) .none kV_fraction dc_fraction pm_fraction an_fraction cd_fraction ct_fraction), sl_fraction⟩)
    (c_fraction : PySem.W.codeIn K cd_fraction "fraction" = true)
    (k_fraction : PySem.W.keepIn K (.ref f_fraction) = true)
    (a_parted : PySem.W.nsIn K mainGlobals "parted" = some (some (.ref f_parted)))
    (l_parted : K.lookup f_parted = some ⟨oc_parted, od_parted, .func (PySem.W.fnOf "parted" "parted" (defArgs s_parted) (defBody s_parted) (defScope s_parted) .none kV_parted dc_parted pm_parted an_parted cd_parted ct_parted), sl_parted⟩)
    (c_parted : PySem.W.codeIn K cd_parted "parted" = true)
    (k_parted : PySem.W.keepIn K (.ref f_parted) = true)
    (a_brings : PySem.W.nsIn K mainGlobals "brings" = some (some (.ref f_brings)))
    (l_brings : K.lookup f_brings = some ⟨oc_brings, od_brings, .func (PySem.W.fnOf "brings" "brings" (defArgs s_brings) (defBody s_brings) (defScope s_brings) .none kV_brings dc_brings pm_brings an_brings cd_brings ct_brings), sl_brings⟩)
    (c_brings : PySem.W.codeIn K cd_brings "brings" = true)
    (k_brings : PySem.W.keepIn K (.ref f_brings) = true)
    (a_longer_walks : PySem.W.nsIn K mainGlobals "longer_walks" = some (some (.ref f_longer_walks)))
    (l_longer_walks : K.lookup f_longer_walks = some ⟨oc_longer_walks, od_longer_walks, .func (PySem.W.fnOf "longer_walks" "longer_walks" (defArgs s_longer_walks) (defBody s_longer_walks) (defScope s_longer_walks) .none kV_longer_walks dc_longer_walks pm_longer_walks an_longer_walks cd_longer_walks ct_longer_walks), sl_longer_walks⟩)
    (c_longer_walks : PySem.W.codeIn K cd_longer_walks "longer_walks" = true)
    (k_longer_walks : PySem.W.keepIn K (.ref f_longer_walks) = true)
    (a_is_least_turn : PySem.W.nsIn K mainGlobals "is_least_turn" = some (some (.ref f_is_least_turn)))
    (l_is_least_turn : K.lookup f_is_least_turn = some ⟨oc_is_least_turn, od_is_least_turn, .func (PySem.W.fnOf "is_least_turn" "is_least_turn" (defArgs s_is_least_turn) (defBody s_is_least_turn) (defScope s_is_least_turn) .none kV_is_least_turn dc_is_least_turn pm_is_least_turn an_is_least_turn cd_is_least_turn ct_is_least_turn), sl_is_least_turn⟩)
    (c_is_least_turn : PySem.W.codeIn K cd_is_least_turn "is_least_turn" = true)
    (k_is_least_turn : PySem.W.keepIn K (.ref f_is_least_turn) = true)
    (a_closed_walks : PySem.W.nsIn K mainGlobals "closed_walks" = some (some (.ref f_closed_walks)))
    (l_closed_walks : K.lookup f_closed_walks = some ⟨oc_closed_walks, od_closed_walks, .func (PySem.W.fnOf "closed_walks" "closed_walks" (defArgs s_closed_walks) (defBody s_closed_walks) (defScope s_closed_walks) .none kV_closed_walks dc_closed_walks pm_closed_walks an_closed_walks cd_closed_walks ct_closed_walks), sl_closed_walks⟩)
    (c_closed_walks : PySem.W.codeIn K cd_closed_walks "closed_walks" = true)
    (k_closed_walks : PySem.W.keepIn K (.ref f_closed_walks) = true)
    (a_factor_and_more : PySem.W.nsIn K mainGlobals "factor_and_more" = some (some (.ref f_factor_and_more)))
    (l_factor_and_more : K.lookup f_factor_and_more = some ⟨oc_factor_and_more, od_factor_and_more, .func (PySem.W.fnOf "factor_and_more" "factor_and_more" (defArgs s_factor_and_more) (defBody s_factor_and_more) (defScope s_factor_and_more) .none kV_factor_and_more dc_factor_and_more pm_factor_and_more an_factor_and_more cd_factor_and_more ct_factor_and_more), sl_factor_and_more⟩)
    (c_factor_and_more : PySem.W.codeIn K cd_factor_and_more "factor_and_more" = true)
    (k_factor_and_more : PySem.W.keepIn K (.ref f_factor_and_more) = true)
    (a_round_of : PySem.W.nsIn K mainGlobals "round_of" = some (some (.ref f_round_of)))
    (l_round_of : K.lookup f_round_of = some ⟨oc_round_of, od_round_of, .func (PySem.W.fnOf "round_of" "round_of" (defArgs s_round_of) (defBody s_round_of) (defScope s_round_of) .none kV_round_of dc_round_of pm_round_of an_round_of cd_round_of ct_round_of), sl_round_of⟩)
    (c_round_of : PySem.W.codeIn K cd_round_of "round_of" = true)
    (k_round_of : PySem.W.keepIn K (.ref f_round_of) = true)
    (a_from_least : PySem.W.nsIn K mainGlobals "from_least" = some (some (.ref f_from_least)))
    (l_from_least : K.lookup f_from_least = some ⟨oc_from_least, od_from_least, .func (PySem.W.fnOf "from_least" "from_least" (defArgs s_from_least) (defBody s_from_least) (defScope s_from_least) .none kV_from_least dc_from_least pm_from_least an_from_least cd_from_least ct_from_least), sl_from_least⟩)
    (c_from_least : PySem.W.codeIn K cd_from_least "from_least" = true)
    (k_from_least : PySem.W.keepIn K (.ref f_from_least) = true)
    (a_point_rounds : PySem.W.nsIn K mainGlobals "point_rounds" = some (some (.ref f_point_rounds)))
    (l_point_rounds : K.lookup f_point_rounds = some ⟨oc_point_rounds, od_point_rounds, .func (PySem.W.fnOf "point_rounds" "point_rounds" (defArgs s_point_rounds) (defBody s_point_rounds) (defScope s_point_rounds) .none kV_point_rounds dc_point_rounds pm_point_rounds an_point_rounds cd_point_rounds ct_point_rounds), sl_point_rounds⟩)
    (c_point_rounds : PySem.W.codeIn K cd_point_rounds "point_rounds" = true)
    (k_point_rounds : PySem.W.keepIn K (.ref f_point_rounds) = true)
    (a_steps_of_all : PySem.W.nsIn K mainGlobals "steps_of_all" = some (some (.ref f_steps_of_all)))
    (l_steps_of_all : K.lookup f_steps_of_all = some ⟨oc_steps_of_all, od_steps_of_all, .func (PySem.W.fnOf "steps_of_all" "steps_of_all" (defArgs s_steps_of_all) (defBody s_steps_of_all) (defScope s_steps_of_all) .none kV_steps_of_all dc_steps_of_all pm_steps_of_all an_steps_of_all cd_steps_of_all ct_steps_of_all), sl_steps_of_all⟩)
    (c_steps_of_all : PySem.W.codeIn K cd_steps_of_all "steps_of_all" = true)
    (k_steps_of_all : PySem.W.keepIn K (.ref f_steps_of_all) = true)
    (a_is_endless : PySem.W.nsIn K mainGlobals "is_endless" = some (some (.ref f_is_endless)))
    (l_is_endless : K.lookup f_is_endless = some ⟨oc_is_endless, od_is_endless, .func (PySem.W.fnOf "is_endless" "is_endless" (defArgs s_is_endless) (defBody s_is_endless) (defScope s_is_endless) .none kV_is_endless dc_is_endless pm_is_endless an_is_endless cd_is_endless ct_is_endless), sl_is_endless⟩)
    (c_is_endless : PySem.W.codeIn K cd_is_endless "is_endless" = true)
    (k_is_endless : PySem.W.keepIn K (.ref f_is_endless) = true)
    (a_key_of : PySem.W.nsIn K mainGlobals "key_of" = some (some (.ref f_key_of)))
    (l_key_of : K.lookup f_key_of = some ⟨oc_key_of, od_key_of, .func (PySem.W.fnOf "key_of" "key_of" (defArgs s_key_of) (defBody s_key_of) (defScope s_key_of) .none kV_key_of dc_key_of pm_key_of an_key_of cd_key_of ct_key_of), sl_key_of⟩)
    (c_key_of : PySem.W.codeIn K cd_key_of "key_of" = true)
    (k_key_of : PySem.W.keepIn K (.ref f_key_of) = true)
    (a_all_rounds : PySem.W.nsIn K mainGlobals "all_rounds" = some (some (.ref f_all_rounds)))
    (l_all_rounds : K.lookup f_all_rounds = some ⟨oc_all_rounds, od_all_rounds, .func (PySem.W.fnOf "all_rounds" "all_rounds" (defArgs s_all_rounds) (defBody s_all_rounds) (defScope s_all_rounds) .none kV_all_rounds dc_all_rounds pm_all_rounds an_all_rounds cd_all_rounds ct_all_rounds), sl_all_rounds⟩)
    (c_all_rounds : PySem.W.codeIn K cd_all_rounds "all_rounds" = true)
    (k_all_rounds : PySem.W.keepIn K (.ref f_all_rounds) = true)
    (a_has_round : PySem.W.nsIn K mainGlobals "has_round" = some (some (.ref f_has_round)))
    (l_has_round : K.lookup f_has_round = some ⟨oc_has_round, od_has_round, .func (PySem.W.fnOf "has_round" "has_round" (defArgs s_has_round) (defBody s_has_round) (defScope s_has_round) .none kV_has_round dc_has_round pm_has_round an_has_round cd_has_round ct_has_round), sl_has_round⟩)
    (c_has_round : PySem.W.codeIn K cd_has_round "has_round" = true)
    (k_has_round : PySem.W.keepIn K (.ref f_has_round) = true)
    (a_want : PySem.W.nsIn K mainGlobals "want" = some (some (.ref f_want)))
    (l_want : K.lookup f_want = some ⟨oc_want, od_want, .func (PySem.W.fnOf "want" "want" (defArgs s_want) (defBody s_want) (defScope s_want) .none kV_want dc_want pm_want an_want cd_want ct_want), sl_want⟩)
    (c_want : PySem.W.codeIn K cd_want "want" = true)
    (k_want : PySem.W.keepIn K (.ref f_want) = true)
    (a_want_steps : PySem.W.nsIn K mainGlobals "want_steps" = some (some (.ref f_want_steps)))
    (l_want_steps : K.lookup f_want_steps = some ⟨oc_want_steps, od_want_steps, .func (PySem.W.fnOf "want_steps" "want_steps" (defArgs s_want_steps) (defBody s_want_steps) (defScope s_want_steps) .none kV_want_steps dc_want_steps pm_want_steps an_want_steps cd_want_steps ct_want_steps), sl_want_steps⟩)
    (c_want_steps : PySem.W.codeIn K cd_want_steps "want_steps" = true)
    (k_want_steps : PySem.W.keepIn K (.ref f_want_steps) = true)
    (a_ranks_of : PySem.W.nsIn K mainGlobals "ranks_of" = some (some (.ref f_ranks_of)))
    (l_ranks_of : K.lookup f_ranks_of = some ⟨oc_ranks_of, od_ranks_of, .func (PySem.W.fnOf "ranks_of" "ranks_of" (defArgs s_ranks_of) (defBody s_ranks_of) (defScope s_ranks_of) .none kV_ranks_of dc_ranks_of pm_ranks_of an_ranks_of cd_ranks_of ct_ranks_of), sl_ranks_of⟩)
    (c_ranks_of : PySem.W.codeIn K cd_ranks_of "ranks_of" = true)
    (k_ranks_of : PySem.W.keepIn K (.ref f_ranks_of) = true)
    (a_do_brings : PySem.W.nsIn K mainGlobals "do_brings" = some (some (.ref f_do_brings)))
    (l_do_brings : K.lookup f_do_brings = some ⟨oc_do_brings, od_do_brings, .func (PySem.W.fnOf "do_brings" "do_brings" (defArgs s_do_brings) (defBody s_do_brings) (defScope s_do_brings) .none kV_do_brings dc_do_brings pm_do_brings an_do_brings cd_do_brings ct_do_brings), sl_do_brings⟩)
    (c_do_brings : PySem.W.codeIn K cd_do_brings "do_brings" = true)
    (k_do_brings : PySem.W.keepIn K (.ref f_do_brings) = true)
    (a_of_line : PySem.W.nsIn K mainGlobals "of_line" = some (some (.ref f_of_line)))
    (l_of_line : K.lookup f_of_line = some ⟨oc_of_line, od_of_line, .func (PySem.W.fnOf "of_line" "of_line" (defArgs s_of_line) (defBody s_of_line) (defScope s_of_line) .none kV_of_line dc_of_line pm_of_line an_of_line cd_of_line ct_of_line), sl_of_line⟩)
    (c_of_line : PySem.W.codeIn K cd_of_line "of_line" = true)
    (k_of_line : PySem.W.keepIn K (.ref f_of_line) = true)
    (a_of_rounds : PySem.W.nsIn K mainGlobals "of_rounds" = some (some (.ref f_of_rounds)))
    (l_of_rounds : K.lookup f_of_rounds = some ⟨oc_of_rounds, od_of_rounds, .func (PySem.W.fnOf "of_rounds" "of_rounds" (defArgs s_of_rounds) (defBody s_of_rounds) (defScope s_of_rounds) .none kV_of_rounds dc_of_rounds pm_of_rounds an_of_rounds cd_of_rounds ct_of_rounds), sl_of_rounds⟩)
    (c_of_rounds : PySem.W.codeIn K cd_of_rounds "of_rounds" = true)
    (k_of_rounds : PySem.W.keepIn K (.ref f_of_rounds) = true)
    (a_told : PySem.W.nsIn K mainGlobals "told" = some (some (.ref f_told)))
    (l_told : K.lookup f_told = some ⟨oc_told, od_told, .func (PySem.W.fnOf "told" "told" (defArgs s_told) (defBody s_told) (defScope s_told) .none kV_told dc_told pm_told an_told cd_told ct_told), sl_told⟩)
    (c_told : PySem.W.codeIn K cd_told "told" = true)
    (k_told : PySem.W.keepIn K (.ref f_told) = true)
    (a_answered : PySem.W.nsIn K mainGlobals "answered" = some (some (.ref f_answered)))
    (l_answered : K.lookup f_answered = some ⟨oc_answered, od_answered, .func (PySem.W.fnOf "answered" "answered" (defArgs s_answered) (defBody s_answered) (defScope s_answered) .none kV_answered dc_answered pm_answered an_answered cd_answered ct_answered), sl_answered⟩)
    (c_answered : PySem.W.codeIn K cd_answered "answered" = true)
    (k_answered : PySem.W.keepIn K (.ref f_answered) = true)
    (a_answers : PySem.W.nsIn K mainGlobals "answers" = some (some (.ref f_answers)))
    (l_answers : K.lookup f_answers = some ⟨oc_answers, od_answers, .func (PySem.W.fnOf "answers" "answers" (defArgs s_answers) (defBody s_answers) (defScope s_answers) .none kV_answers dc_answers pm_answers an_answers cd_answers ct_answers), sl_answers⟩)
    (c_answers : PySem.W.codeIn K cd_answers "answers" = true)
    (k_answers : PySem.W.keepIn K (.ref f_answers) = true)
    (a_l_init : PySem.W.findIn K (.ref cL) "__init__" = some (some (.ref f_l_init)))
    (i_l_init : PySem.W.isFn K (.ref f_l_init) = true)
    (l_l_init : K.lookup f_l_init = some ⟨oc_l_init, od_l_init, .func (PySem.W.fnOf "__init__" "Line.__init__" (defArgs s_l_init) (defBody s_l_init) (defScope s_l_init) .none kV_l_init dc_l_init pm_l_init an_l_init cd_l_init ct_l_init), sl_l_init⟩)
    (c_l_init : PySem.W.codeIn K cd_l_init "Line.__init__" = true)
    (k_l_init : PySem.W.keepIn K (.ref f_l_init) = true)
    (a_l_many : PySem.W.findIn K (.ref cL) "many" = some (some (.ref f_l_many)))
    (i_l_many : PySem.W.isFn K (.ref f_l_many) = true)
    (l_l_many : K.lookup f_l_many = some ⟨oc_l_many, od_l_many, .func (PySem.W.fnOf "many" "Line.many" (defArgs s_l_many) (defBody s_l_many) (defScope s_l_many) .none kV_l_many dc_l_many pm_l_many an_l_many cd_l_many ct_l_many), sl_l_many⟩)
    (c_l_many : PySem.W.codeIn K cd_l_many "Line.many" = true)
    (k_l_many : PySem.W.keepIn K (.ref f_l_many) = true)
    (a_l_slope : PySem.W.findIn K (.ref cL) "slope" = some (some (.ref f_l_slope)))
    (i_l_slope : PySem.W.isFn K (.ref f_l_slope) = true)
    (l_l_slope : K.lookup f_l_slope = some ⟨oc_l_slope, od_l_slope, .func (PySem.W.fnOf "slope" "Line.slope" (defArgs s_l_slope) (defBody s_l_slope) (defScope s_l_slope) .none kV_l_slope dc_l_slope pm_l_slope an_l_slope cd_l_slope ct_l_slope), sl_l_slope⟩)
    (c_l_slope : PySem.W.codeIn K cd_l_slope "Line.slope" = true)
    (k_l_slope : PySem.W.keepIn K (.ref f_l_slope) = true)
    (a_l_covers : PySem.W.findIn K (.ref cL) "covers" = some (some (.ref f_l_covers)))
    (i_l_covers : PySem.W.isFn K (.ref f_l_covers) = true)
    (l_l_covers : K.lookup f_l_covers = some ⟨oc_l_covers, od_l_covers, .func (PySem.W.fnOf "covers" "Line.covers" (defArgs s_l_covers) (defBody s_l_covers) (defScope s_l_covers) .none kV_l_covers dc_l_covers pm_l_covers an_l_covers cd_l_covers ct_l_covers), sl_l_covers⟩)
    (c_l_covers : PySem.W.codeIn K cd_l_covers "Line.covers" = true)
    (k_l_covers : PySem.W.keepIn K (.ref f_l_covers) = true)
    (a_l_covered : PySem.W.findIn K (.ref cL) "covered" = some (some (.ref f_l_covered)))
    (i_l_covered : PySem.W.isFn K (.ref f_l_covered) = true)
    (l_l_covered : K.lookup f_l_covered = some ⟨oc_l_covered, od_l_covered, .func (PySem.W.fnOf "covered" "Line.covered" (defArgs s_l_covered) (defBody s_l_covered) (defScope s_l_covered) .none kV_l_covered dc_l_covered pm_l_covered an_l_covered cd_l_covered ct_l_covered), sl_l_covered⟩)
    (c_l_covered : PySem.W.codeIn K cd_l_covered "Line.covered" = true)
    (k_l_covered : PySem.W.keepIn K (.ref f_l_covered) = true)
    (a_l_put : PySem.W.findIn K (.ref cL) "put" = some (some (.ref f_l_put)))
    (i_l_put : PySem.W.isFn K (.ref f_l_put) = true)
    (l_l_put : K.lookup f_l_put = some ⟨oc_l_put, od_l_put, .func (PySem.W.fnOf "put" "Line.put" (defArgs s_l_put) (defBody s_l_put) (defScope s_l_put) .none kV_l_put dc_l_put pm_l_put an_l_put cd_l_put ct_l_put), sl_l_put⟩)
    (c_l_put : PySem.W.codeIn K cd_l_put "Line.put" = true)
    (k_l_put : PySem.W.keepIn K (.ref f_l_put) = true)
    (a_l_way : PySem.W.findIn K (.ref cL) "way" = some (some (.ref f_l_way)))
    (i_l_way : PySem.W.isFn K (.ref f_l_way) = true)
    (l_l_way : K.lookup f_l_way = some ⟨oc_l_way, od_l_way, .func (PySem.W.fnOf "way" "Line.way" (defArgs s_l_way) (defBody s_l_way) (defScope s_l_way) .none kV_l_way dc_l_way pm_l_way an_l_way cd_l_way ct_l_way), sl_l_way⟩)
    (c_l_way : PySem.W.codeIn K cd_l_way "Line.way" = true)
    (k_l_way : PySem.W.keepIn K (.ref f_l_way) = true)
    (a_l_comes : PySem.W.findIn K (.ref cL) "comes" = some (some (.ref f_l_comes)))
    (i_l_comes : PySem.W.isFn K (.ref f_l_comes) = true)
    (l_l_comes : K.lookup f_l_comes = some ⟨oc_l_comes, od_l_comes, .func (PySem.W.fnOf "comes" "Line.comes" (defArgs s_l_comes) (defBody s_l_comes) (defScope s_l_comes) .none kV_l_comes dc_l_comes pm_l_comes an_l_comes cd_l_comes ct_l_comes), sl_l_comes⟩)
    (c_l_comes : PySem.W.codeIn K cd_l_comes "Line.comes" = true)
    (k_l_comes : PySem.W.keepIn K (.ref f_l_comes) = true)
    (a_l_turned : PySem.W.findIn K (.ref cL) "turned" = some (some (.ref f_l_turned)))
    (i_l_turned : PySem.W.isFn K (.ref f_l_turned) = true)
    (l_l_turned : K.lookup f_l_turned = some ⟨oc_l_turned, od_l_turned, .func (PySem.W.fnOf "turned" "Line.turned" (defArgs s_l_turned) (defBody s_l_turned) (defScope s_l_turned) .none kV_l_turned dc_l_turned pm_l_turned an_l_turned cd_l_turned ct_l_turned), sl_l_turned⟩)
    (c_l_turned : PySem.W.codeIn K cd_l_turned "Line.turned" = true)
    (k_l_turned : PySem.W.keepIn K (.ref f_l_turned) = true)
    (a_d_init : PySem.W.findIn K (.ref cD) "__init__" = some (some (.ref f_d_init)))
    (i_d_init : PySem.W.isFn K (.ref f_d_init) = true)
    (l_d_init : K.lookup f_d_init = some ⟨oc_d_init, od_d_init, .func (PySem.W.fnOf "__init__" "Desk.__init__" (defArgs s_d_init) (defBody s_d_init) (defScope s_d_init) .none kV_d_init dc_d_init pm_d_init an_d_init cd_d_init ct_d_init), sl_d_init⟩)
    (c_d_init : PySem.W.codeIn K cd_d_init "Desk.__init__" = true)
    (k_d_init : PySem.W.keepIn K (.ref f_d_init) = true)
    (a_d_line : PySem.W.findIn K (.ref cD) "line" = some (some (.ref f_d_line)))
    (i_d_line : PySem.W.isFn K (.ref f_d_line) = true)
    (l_d_line : K.lookup f_d_line = some ⟨oc_d_line, od_d_line, .func (PySem.W.fnOf "line" "Desk.line" (defArgs s_d_line) (defBody s_d_line) (defScope s_d_line) .none kV_d_line dc_d_line pm_d_line an_d_line cd_d_line ct_d_line), sl_d_line⟩)
    (c_d_line : PySem.W.codeIn K cd_d_line "Desk.line" = true)
    (k_d_line : PySem.W.keepIn K (.ref f_d_line) = true)
    (a_d_begin : PySem.W.findIn K (.ref cD) "begin" = some (some (.ref f_d_begin)))
    (i_d_begin : PySem.W.isFn K (.ref f_d_begin) = true)
    (l_d_begin : K.lookup f_d_begin = some ⟨oc_d_begin, od_d_begin, .func (PySem.W.fnOf "begin" "Desk.begin" (defArgs s_d_begin) (defBody s_d_begin) (defScope s_d_begin) .none kV_d_begin dc_d_begin pm_d_begin an_d_begin cd_d_begin ct_d_begin), sl_d_begin⟩)
    (c_d_begin : PySem.W.codeIn K cd_d_begin "Desk.begin" = true)
    (k_d_begin : PySem.W.keepIn K (.ref f_d_begin) = true)
    (a_d_set_point : PySem.W.findIn K (.ref cD) "set_point" = some (some (.ref f_d_set_point)))
    (i_d_set_point : PySem.W.isFn K (.ref f_d_set_point) = true)
    (l_d_set_point : K.lookup f_d_set_point = some ⟨oc_d_set_point, od_d_set_point, .func (PySem.W.fnOf "set_point" "Desk.set_point" (defArgs s_d_set_point) (defBody s_d_set_point) (defScope s_d_set_point) .none kV_d_set_point dc_d_set_point pm_d_set_point an_d_set_point cd_d_set_point ct_d_set_point), sl_d_set_point⟩)
    (c_d_set_point : PySem.W.codeIn K cd_d_set_point "Desk.set_point" = true)
    (k_d_set_point : PySem.W.keepIn K (.ref f_d_set_point) = true)
    (a_d_set_row : PySem.W.findIn K (.ref cD) "set_row" = some (some (.ref f_d_set_row)))
    (i_d_set_row : PySem.W.isFn K (.ref f_d_set_row) = true)
    (l_d_set_row : K.lookup f_d_set_row = some ⟨oc_d_set_row, od_d_set_row, .func (PySem.W.fnOf "set_row" "Desk.set_row" (defArgs s_d_set_row) (defBody s_d_set_row) (defScope s_d_set_row) .none kV_d_set_row dc_d_set_row pm_d_set_row an_d_set_row cd_d_set_row ct_d_set_row), sl_d_set_row⟩)
    (c_d_set_row : PySem.W.codeIn K cd_d_set_row "Desk.set_row" = true)
    (k_d_set_row : PySem.W.keepIn K (.ref f_d_set_row) = true)
    (a_d_place : PySem.W.findIn K (.ref cD) "place" = some (some (.ref f_d_place)))
    (i_d_place : PySem.W.isFn K (.ref f_d_place) = true)
    (l_d_place : K.lookup f_d_place = some ⟨oc_d_place, od_d_place, .func (PySem.W.fnOf "place" "Desk.place" (defArgs s_d_place) (defBody s_d_place) (defScope s_d_place) .none kV_d_place dc_d_place pm_d_place an_d_place cd_d_place ct_d_place), sl_d_place⟩)
    (c_d_place : PySem.W.codeIn K cd_d_place "Desk.place" = true)
    (k_d_place : PySem.W.keepIn K (.ref f_d_place) = true)
    (a_d_want_piece : PySem.W.findIn K (.ref cD) "want_piece" = some (some (.ref f_d_want_piece)))
    (i_d_want_piece : PySem.W.isFn K (.ref f_d_want_piece) = true)
    (l_d_want_piece : K.lookup f_d_want_piece = some ⟨oc_d_want_piece, od_d_want_piece, .func (PySem.W.fnOf "want_piece" "Desk.want_piece" (defArgs s_d_want_piece) (defBody s_d_want_piece) (defScope s_d_want_piece) .none kV_d_want_piece dc_d_want_piece pm_d_want_piece an_d_want_piece cd_d_want_piece ct_d_want_piece), sl_d_want_piece⟩)
    (c_d_want_piece : PySem.W.codeIn K cd_d_want_piece "Desk.want_piece" = true)
    (k_d_want_piece : PySem.W.keepIn K (.ref f_d_want_piece) = true)
    (a_d_put : PySem.W.findIn K (.ref cD) "put" = some (some (.ref f_d_put)))
    (i_d_put : PySem.W.isFn K (.ref f_d_put) = true)
    (l_d_put : K.lookup f_d_put = some ⟨oc_d_put, od_d_put, .func (PySem.W.fnOf "put" "Desk.put" (defArgs s_d_put) (defBody s_d_put) (defScope s_d_put) .none kV_d_put dc_d_put pm_d_put an_d_put cd_d_put ct_d_put), sl_d_put⟩)
    (c_d_put : PySem.W.codeIn K cd_d_put "Desk.put" = true)
    (k_d_put : PySem.W.keepIn K (.ref f_d_put) = true)
    (a_d_way : PySem.W.findIn K (.ref cD) "way" = some (some (.ref f_d_way)))
    (i_d_way : PySem.W.isFn K (.ref f_d_way) = true)
    (l_d_way : K.lookup f_d_way = some ⟨oc_d_way, od_d_way, .func (PySem.W.fnOf "way" "Desk.way" (defArgs s_d_way) (defBody s_d_way) (defScope s_d_way) .none kV_d_way dc_d_way pm_d_way an_d_way cd_d_way ct_d_way), sl_d_way⟩)
    (c_d_way : PySem.W.codeIn K cd_d_way "Desk.way" = true)
    (k_d_way : PySem.W.keepIn K (.ref f_d_way) = true)
    (a_d_comes : PySem.W.findIn K (.ref cD) "comes" = some (some (.ref f_d_comes)))
    (i_d_comes : PySem.W.isFn K (.ref f_d_comes) = true)
    (l_d_comes : K.lookup f_d_comes = some ⟨oc_d_comes, od_d_comes, .func (PySem.W.fnOf "comes" "Desk.comes" (defArgs s_d_comes) (defBody s_d_comes) (defScope s_d_comes) .none kV_d_comes dc_d_comes pm_d_comes an_d_comes cd_d_comes ct_d_comes), sl_d_comes⟩)
    (c_d_comes : PySem.W.codeIn K cd_d_comes "Desk.comes" = true)
    (k_d_comes : PySem.W.keepIn K (.ref f_d_comes) = true)
    (a_d_covers : PySem.W.findIn K (.ref cD) "covers" = some (some (.ref f_d_covers)))
    (i_d_covers : PySem.W.isFn K (.ref f_d_covers) = true)
    (l_d_covers : K.lookup f_d_covers = some ⟨oc_d_covers, od_d_covers, .func (PySem.W.fnOf "covers" "Desk.covers" (defArgs s_d_covers) (defBody s_d_covers) (defScope s_d_covers) .none kV_d_covers dc_d_covers pm_d_covers an_d_covers cd_d_covers ct_d_covers), sl_d_covers⟩)
    (c_d_covers : PySem.W.codeIn K cd_d_covers "Desk.covers" = true)
    (k_d_covers : PySem.W.keepIn K (.ref f_d_covers) = true)
    (a_d_has : PySem.W.findIn K (.ref cD) "has" = some (some (.ref f_d_has)))
    (i_d_has : PySem.W.isFn K (.ref f_d_has) = true)
    (l_d_has : K.lookup f_d_has = some ⟨oc_d_has, od_d_has, .func (PySem.W.fnOf "has" "Desk.has" (defArgs s_d_has) (defBody s_d_has) (defScope s_d_has) .none kV_d_has dc_d_has pm_d_has an_d_has cd_d_has ct_d_has), sl_d_has⟩)
    (c_d_has : PySem.W.codeIn K cd_d_has "Desk.has" = true)
    (k_d_has : PySem.W.keepIn K (.ref f_d_has) = true)
    (a_d_which : PySem.W.findIn K (.ref cD) "which" = some (some (.ref f_d_which)))
    (i_d_which : PySem.W.isFn K (.ref f_d_which) = true)
    (l_d_which : K.lookup f_d_which = some ⟨oc_d_which, od_d_which, .func (PySem.W.fnOf "which" "Desk.which" (defArgs s_d_which) (defBody s_d_which) (defScope s_d_which) .none kV_d_which dc_d_which pm_d_which an_d_which cd_d_which ct_d_which), sl_d_which⟩)
    (c_d_which : PySem.W.codeIn K cd_d_which "Desk.which" = true)
    (k_d_which : PySem.W.keepIn K (.ref f_d_which) = true)
    (a_d_rounds_of : PySem.W.findIn K (.ref cD) "rounds_of" = some (some (.ref f_d_rounds_of)))
    (i_d_rounds_of : PySem.W.isFn K (.ref f_d_rounds_of) = true)
    (l_d_rounds_of : K.lookup f_d_rounds_of = some ⟨oc_d_rounds_of, od_d_rounds_of, .func (PySem.W.fnOf "rounds_of" "Desk.rounds_of" (defArgs s_d_rounds_of) (defBody s_d_rounds_of) (defScope s_d_rounds_of) .none kV_d_rounds_of dc_d_rounds_of pm_d_rounds_of an_d_rounds_of cd_d_rounds_of ct_d_rounds_of), sl_d_rounds_of⟩)
    (c_d_rounds_of : PySem.W.codeIn K cd_d_rounds_of "Desk.rounds_of" = true)
    (k_d_rounds_of : PySem.W.keepIn K (.ref f_d_rounds_of) = true)
    (a_d_rounds : PySem.W.findIn K (.ref cD) "rounds" = some (some (.ref f_d_rounds)))
    (i_d_rounds : PySem.W.isFn K (.ref f_d_rounds) = true)
    (l_d_rounds : K.lookup f_d_rounds = some ⟨oc_d_rounds, od_d_rounds, .func (PySem.W.fnOf "rounds" "Desk.rounds" (defArgs s_d_rounds) (defBody s_d_rounds) (defScope s_d_rounds) .none kV_d_rounds dc_d_rounds pm_d_rounds an_d_rounds cd_d_rounds ct_d_rounds), sl_d_rounds⟩)
    (c_d_rounds : PySem.W.codeIn K cd_d_rounds "Desk.rounds" = true)
    (k_d_rounds : PySem.W.keepIn K (.ref f_d_rounds) = true)
    (a_d_round_at : PySem.W.findIn K (.ref cD) "round_at" = some (some (.ref f_d_round_at)))
    (i_d_round_at : PySem.W.isFn K (.ref f_d_round_at) = true)
    (l_d_round_at : K.lookup f_d_round_at = some ⟨oc_d_round_at, od_d_round_at, .func (PySem.W.fnOf "round_at" "Desk.round_at" (defArgs s_d_round_at) (defBody s_d_round_at) (defScope s_d_round_at) .none kV_d_round_at dc_d_round_at pm_d_round_at an_d_round_at cd_d_round_at ct_d_round_at), sl_d_round_at⟩)
    (c_d_round_at : PySem.W.codeIn K cd_d_round_at "Desk.round_at" = true)
    (k_d_round_at : PySem.W.keepIn K (.ref f_d_round_at) = true)
    (a_d_round : PySem.W.findIn K (.ref cD) "round" = some (some (.ref f_d_round)))
    (i_d_round : PySem.W.isFn K (.ref f_d_round) = true)
    (l_d_round : K.lookup f_d_round = some ⟨oc_d_round, od_d_round, .func (PySem.W.fnOf "round" "Desk.round" (defArgs s_d_round) (defBody s_d_round) (defScope s_d_round) .none kV_d_round dc_d_round pm_d_round an_d_round cd_d_round ct_d_round), sl_d_round⟩)
    (c_d_round : PySem.W.codeIn K cd_d_round "Desk.round" = true)
    (k_d_round : PySem.W.keepIn K (.ref f_d_round) = true)
    (a_d_type_of : PySem.W.findIn K (.ref cD) "type_of" = some (some (.ref f_d_type_of)))
    (i_d_type_of : PySem.W.isFn K (.ref f_d_type_of) = true)
    (l_d_type_of : K.lookup f_d_type_of = some ⟨oc_d_type_of, od_d_type_of, .func (PySem.W.fnOf "type_of" "Desk.type_of" (defArgs s_d_type_of) (defBody s_d_type_of) (defScope s_d_type_of) .none kV_d_type_of dc_d_type_of pm_d_type_of an_d_type_of cd_d_type_of ct_d_type_of), sl_d_type_of⟩)
    (c_d_type_of : PySem.W.codeIn K cd_d_type_of "Desk.type_of" = true)
    (k_d_type_of : PySem.W.keepIn K (.ref f_d_type_of) = true)
    (a_d_slope : PySem.W.findIn K (.ref cD) "slope" = some (some (.ref f_d_slope)))
    (i_d_slope : PySem.W.isFn K (.ref f_d_slope) = true)
    (l_d_slope : K.lookup f_d_slope = some ⟨oc_d_slope, od_d_slope, .func (PySem.W.fnOf "slope" "Desk.slope" (defArgs s_d_slope) (defBody s_d_slope) (defScope s_d_slope) .none kV_d_slope dc_d_slope pm_d_slope an_d_slope cd_d_slope ct_d_slope), sl_d_slope⟩)
    (c_d_slope : PySem.W.codeIn K cd_d_slope "Desk.slope" = true)
    (k_d_slope : PySem.W.keepIn K (.ref f_d_slope) = true)
    (a_d_turn : PySem.W.findIn K (.ref cD) "turn" = some (some (.ref f_d_turn)))
    (i_d_turn : PySem.W.isFn K (.ref f_d_turn) = true)
    (l_d_turn : K.lookup f_d_turn = some ⟨oc_d_turn, od_d_turn, .func (PySem.W.fnOf "turn" "Desk.turn" (defArgs s_d_turn) (defBody s_d_turn) (defScope s_d_turn) .none kV_d_turn dc_d_turn pm_d_turn an_d_turn cd_d_turn ct_d_turn), sl_d_turn⟩)
    (c_d_turn : PySem.W.codeIn K cd_d_turn "Desk.turn" = true)
    (k_d_turn : PySem.W.keepIn K (.ref f_d_turn) = true)
    (a_d_state : PySem.W.findIn K (.ref cD) "state" = some (some (.ref f_d_state)))
    (i_d_state : PySem.W.isFn K (.ref f_d_state) = true)
    (l_d_state : K.lookup f_d_state = some ⟨oc_d_state, od_d_state, .func (PySem.W.fnOf "state" "Desk.state" (defArgs s_d_state) (defBody s_d_state) (defScope s_d_state) .none kV_d_state dc_d_state pm_d_state an_d_state cd_d_state ct_d_state), sl_d_state⟩)
    (c_d_state : PySem.W.codeIn K cd_d_state "Desk.state" = true)
    (k_d_state : PySem.W.keepIn K (.ref f_d_state) = true)
    (a_r_init : PySem.W.findIn K (.ref cR) "__init__" = some (some (.ref f_r_init)))
    (t_r_init : PySem.W.typeIn K (.ref f_r_init) = some (.type "function"))
    (l_r_init : K.lookup f_r_init = some ⟨oc_r_init, od_r_init, .func (PySem.W.fnOf "__init__" "Refused.__init__" (defArgs s_r_init) (defBody s_r_init) (defScope s_r_init) .none kV_r_init dc_r_init pm_r_init an_r_init cd_r_init ct_r_init), sl_r_init⟩)
    (c_r_init : PySem.W.codeIn K cd_r_init "Refused.__init__" = true)
    (k_r_init : PySem.W.keepIn K (.ref f_r_init) = true)
    (pg_cL : PySem.W.plainGet K cL Str.empty = true)
    (hd_cL : PySem.W.hasDictIn K cL = true)
    (po_cL : PySem.W.plainOver K cL = true)
    (sa_cL : PySem.W.findIn K (.ref cL) "__setattr__" = some (some (.builtin "object.__setattr__")))
    (mk_cL : PySem.W.makesIn K cL = true)
    (kc_cL : PySem.W.keepIn K (.ref cL) = true)
    (pg_cD : PySem.W.plainGet K cD Str.empty = true)
    (hd_cD : PySem.W.hasDictIn K cD = true)
    (po_cD : PySem.W.plainOver K cD = true)
    (sa_cD : PySem.W.findIn K (.ref cD) "__setattr__" = some (some (.builtin "object.__setattr__")))
    (mk_cD : PySem.W.makesIn K cD = true)
    (kc_cD : PySem.W.keepIn K (.ref cD) = true)
    (nPo : PySem.W.findIn K (.ref cL) "points" = some none)
    (nFo : PySem.W.findIn K (.ref cL) "found" = some none)
    (nOw : PySem.W.findIn K (.ref cD) "own" = some none)
    (xL : K.lookup cR = some (excClassObj nm_r q_r cR N_r bs_r [.type "ValueError", .type "Exception", .type "BaseException", .type "object"] true sn_r sub_r ab_r col_r dd_r m0_r m1_r m2_r m3_r m5_r "ValueError.__new__"))
    (sa_cR : PySem.W.findIn K (.ref cR) "__setattr__" = some (some (.builtin "object.__setattr__")))
    (ga_cR : PySem.W.findIn K (.ref cR) "__getattribute__" = some (some (.builtin "BaseException.__getattribute__")))
    (gg_cR : PySem.W.findIn K (.ref cR) "__getattr__" = some none)
    (no_cR : PySem.W.findIn K (.ref cR) "refusal" = some none)
    (kC_cR : PySem.W.keepIn K (.ref cR) = true)
    (eC_cR : PySem.W.subIn K (.ref cR) (.type "BaseException") = some true)
    (tC_cR : PySem.W.typeIn K (.ref cR) = some (.type "type"))
    (hC_cR : PySem.W.hasDictIn K cR = true)
    (iC_cR : PySem.W.isClsIn K cR = true)
    (sC_cR : PySem.W.subIn K (.ref cR) (.ref cR) = some true)
    (vV : PySem.W.findCls K (.type "ValueError") (.type "type") "__init__" = some (.val (.builtin "ValueError.__init__")))
    (gNu : PySem.W.nsIn K mainGlobals "NUMBERS" = some (some (.ref nA)))
    (lNu : K.lookup nA = some ⟨.type "tuple", odN, .seq #[.int 1 u0, .int 2 u1, .int 0 u2, .int 2 u3, .int 3 u4, .int 2 u5, .int 2 u6, .int 1 u7, .int 0 u8, .int 1 u9, .int 2 u10, .int 2 u11, .int 2 u12, .int 1 u13, .int 0 u14, .int 0 u15] nN, slN⟩)
    (b_len : PySem.W.nsIn K mainGlobals "len" = some none)
    (b_range : PySem.W.nsIn K mainGlobals "range" = some none)
    (b_min : PySem.W.nsIn K mainGlobals "min" = some none)
    (b_max : PySem.W.nsIn K mainGlobals "max" = some none)
    (b_all : PySem.W.nsIn K mainGlobals "all" = some none)
    (b_any : PySem.W.nsIn K mainGlobals "any" = some none)
    (b_sorted : PySem.W.nsIn K mainGlobals "sorted" = some none)
    (b_int : PySem.W.nsIn K mainGlobals "int" = some none)
    (b_list : PySem.W.nsIn K mainGlobals "list" = some none)
    (b_ValueError : PySem.W.nsIn K mainGlobals "ValueError" = some none)
    (c_MOST_STEPS : PySem.W.nsIn K mainGlobals "MOST_STEPS" = some (some (.int 6 t_MOST_STEPS)))
    (c_SCALE : PySem.W.nsIn K mainGlobals "SCALE" = some (some (.int 1000000000000 t_SCALE)))
    (c_NO_SUCH : PySem.W.nsIn K mainGlobals "NO_SUCH" = some (some (.int (-2) t_NO_SUCH)))
    (c_NOT_BEGUN : PySem.W.nsIn K mainGlobals "NOT_BEGUN" = some (some (.int (-11) t_NOT_BEGUN)))
    (c_NOT_AS_TOLD : PySem.W.nsIn K mainGlobals "NOT_AS_TOLD" = some (some (.int (-22) t_NOT_AS_TOLD)))
    (c_NO_MORE : PySem.W.nsIn K mainGlobals "NO_MORE" = some (some (.int (-33) t_NO_MORE)))
    (c_ENDLESS : PySem.W.nsIn K mainGlobals "ENDLESS" = some (some (.int (-75) t_ENDLESS)))
    (c_MOST_PIECES : PySem.W.nsIn K mainGlobals "MOST_PIECES" = some (some (.int 6 t_MOST_PIECES)))
    (c_MOST_BELOW : PySem.W.nsIn K mainGlobals "MOST_BELOW" = some (some (.int 40 t_MOST_BELOW)))
    (c_MOST_IN_WAY : PySem.W.nsIn K mainGlobals "MOST_IN_WAY" = some (some (.int 20 t_MOST_IN_WAY)))
    (c_MOST_BROUGHT : PySem.W.nsIn K mainGlobals "MOST_BROUGHT" = some (some (.int 1000 t_MOST_BROUGHT)))
    (c_ROW : PySem.W.nsIn K mainGlobals "ROW" = some (some (.int 2 t_ROW)))
    : ∃ fd : FuncData, (∀ (s : Shared) (us : List Value), us.length = (["calls"] : List Str).length → BindsTo s fd ⟨us, []⟩ ((["calls"] : List Str).zip us)) ∧ ∀ base : Heap, K.In base → base.Ns mainGlobals mg → FnOk P w K mg base CX0 13 fa fd ["calls"] (spAns K) := by
  have e := hfa.symm.trans (PySem.W.mg_of X G a_answers)
  cases e
  have T : Txt K mg
      { cL := cL, cD := cD, cR := cR, nums := nA,
        divisor_of := ⟨f_divisor_of, PySem.W.fnOf "divisor_of" "divisor_of" (defArgs s_divisor_of) (defBody s_divisor_of) (defScope s_divisor_of) .none kV_divisor_of dc_divisor_of pm_divisor_of an_divisor_of cd_divisor_of ct_divisor_of⟩,
        fraction := ⟨f_fraction, PySem.W.fnOf "fraction" "fraction" (defArgs s_fraction) (defBody s_fraction) (defScope s_fraction) .none kV_fraction dc_fraction pm_fraction an_fraction cd_fraction ct_fraction⟩,
        parted := ⟨f_parted, PySem.W.fnOf "parted" "parted" (defArgs s_parted) (defBody s_parted) (defScope s_parted) .none kV_parted dc_parted pm_parted an_parted cd_parted ct_parted⟩,
        brings := ⟨f_brings, PySem.W.fnOf "brings" "brings" (defArgs s_brings) (defBody s_brings) (defScope s_brings) .none kV_brings dc_brings pm_brings an_brings cd_brings ct_brings⟩,
        longer_walks := ⟨f_longer_walks, PySem.W.fnOf "longer_walks" "longer_walks" (defArgs s_longer_walks) (defBody s_longer_walks) (defScope s_longer_walks) .none kV_longer_walks dc_longer_walks pm_longer_walks an_longer_walks cd_longer_walks ct_longer_walks⟩,
        is_least_turn := ⟨f_is_least_turn, PySem.W.fnOf "is_least_turn" "is_least_turn" (defArgs s_is_least_turn) (defBody s_is_least_turn) (defScope s_is_least_turn) .none kV_is_least_turn dc_is_least_turn pm_is_least_turn an_is_least_turn cd_is_least_turn ct_is_least_turn⟩,
        closed_walks := ⟨f_closed_walks, PySem.W.fnOf "closed_walks" "closed_walks" (defArgs s_closed_walks) (defBody s_closed_walks) (defScope s_closed_walks) .none kV_closed_walks dc_closed_walks pm_closed_walks an_closed_walks cd_closed_walks ct_closed_walks⟩,
        factor_and_more := ⟨f_factor_and_more, PySem.W.fnOf "factor_and_more" "factor_and_more" (defArgs s_factor_and_more) (defBody s_factor_and_more) (defScope s_factor_and_more) .none kV_factor_and_more dc_factor_and_more pm_factor_and_more an_factor_and_more cd_factor_and_more ct_factor_and_more⟩,
        round_of := ⟨f_round_of, PySem.W.fnOf "round_of" "round_of" (defArgs s_round_of) (defBody s_round_of) (defScope s_round_of) .none kV_round_of dc_round_of pm_round_of an_round_of cd_round_of ct_round_of⟩,
        from_least := ⟨f_from_least, PySem.W.fnOf "from_least" "from_least" (defArgs s_from_least) (defBody s_from_least) (defScope s_from_least) .none kV_from_least dc_from_least pm_from_least an_from_least cd_from_least ct_from_least⟩,
        point_rounds := ⟨f_point_rounds, PySem.W.fnOf "point_rounds" "point_rounds" (defArgs s_point_rounds) (defBody s_point_rounds) (defScope s_point_rounds) .none kV_point_rounds dc_point_rounds pm_point_rounds an_point_rounds cd_point_rounds ct_point_rounds⟩,
        steps_of_all := ⟨f_steps_of_all, PySem.W.fnOf "steps_of_all" "steps_of_all" (defArgs s_steps_of_all) (defBody s_steps_of_all) (defScope s_steps_of_all) .none kV_steps_of_all dc_steps_of_all pm_steps_of_all an_steps_of_all cd_steps_of_all ct_steps_of_all⟩,
        is_endless := ⟨f_is_endless, PySem.W.fnOf "is_endless" "is_endless" (defArgs s_is_endless) (defBody s_is_endless) (defScope s_is_endless) .none kV_is_endless dc_is_endless pm_is_endless an_is_endless cd_is_endless ct_is_endless⟩,
        key_of := ⟨f_key_of, PySem.W.fnOf "key_of" "key_of" (defArgs s_key_of) (defBody s_key_of) (defScope s_key_of) .none kV_key_of dc_key_of pm_key_of an_key_of cd_key_of ct_key_of⟩,
        all_rounds := ⟨f_all_rounds, PySem.W.fnOf "all_rounds" "all_rounds" (defArgs s_all_rounds) (defBody s_all_rounds) (defScope s_all_rounds) .none kV_all_rounds dc_all_rounds pm_all_rounds an_all_rounds cd_all_rounds ct_all_rounds⟩,
        has_round := ⟨f_has_round, PySem.W.fnOf "has_round" "has_round" (defArgs s_has_round) (defBody s_has_round) (defScope s_has_round) .none kV_has_round dc_has_round pm_has_round an_has_round cd_has_round ct_has_round⟩,
        want := ⟨f_want, PySem.W.fnOf "want" "want" (defArgs s_want) (defBody s_want) (defScope s_want) .none kV_want dc_want pm_want an_want cd_want ct_want⟩,
        want_steps := ⟨f_want_steps, PySem.W.fnOf "want_steps" "want_steps" (defArgs s_want_steps) (defBody s_want_steps) (defScope s_want_steps) .none kV_want_steps dc_want_steps pm_want_steps an_want_steps cd_want_steps ct_want_steps⟩,
        ranks_of := ⟨f_ranks_of, PySem.W.fnOf "ranks_of" "ranks_of" (defArgs s_ranks_of) (defBody s_ranks_of) (defScope s_ranks_of) .none kV_ranks_of dc_ranks_of pm_ranks_of an_ranks_of cd_ranks_of ct_ranks_of⟩,
        do_brings := ⟨f_do_brings, PySem.W.fnOf "do_brings" "do_brings" (defArgs s_do_brings) (defBody s_do_brings) (defScope s_do_brings) .none kV_do_brings dc_do_brings pm_do_brings an_do_brings cd_do_brings ct_do_brings⟩,
        of_line := ⟨f_of_line, PySem.W.fnOf "of_line" "of_line" (defArgs s_of_line) (defBody s_of_line) (defScope s_of_line) .none kV_of_line dc_of_line pm_of_line an_of_line cd_of_line ct_of_line⟩,
        of_rounds := ⟨f_of_rounds, PySem.W.fnOf "of_rounds" "of_rounds" (defArgs s_of_rounds) (defBody s_of_rounds) (defScope s_of_rounds) .none kV_of_rounds dc_of_rounds pm_of_rounds an_of_rounds cd_of_rounds ct_of_rounds⟩,
        told := ⟨f_told, PySem.W.fnOf "told" "told" (defArgs s_told) (defBody s_told) (defScope s_told) .none kV_told dc_told pm_told an_told cd_told ct_told⟩,
        answered := ⟨f_answered, PySem.W.fnOf "answered" "answered" (defArgs s_answered) (defBody s_answered) (defScope s_answered) .none kV_answered dc_answered pm_answered an_answered cd_answered ct_answered⟩,
        answers := ⟨fa, PySem.W.fnOf "answers" "answers" (defArgs s_answers) (defBody s_answers) (defScope s_answers) .none kV_answers dc_answers pm_answers an_answers cd_answers ct_answers⟩,
        l_init := ⟨f_l_init, PySem.W.fnOf "__init__" "Line.__init__" (defArgs s_l_init) (defBody s_l_init) (defScope s_l_init) .none kV_l_init dc_l_init pm_l_init an_l_init cd_l_init ct_l_init⟩,
        l_many := ⟨f_l_many, PySem.W.fnOf "many" "Line.many" (defArgs s_l_many) (defBody s_l_many) (defScope s_l_many) .none kV_l_many dc_l_many pm_l_many an_l_many cd_l_many ct_l_many⟩,
        l_slope := ⟨f_l_slope, PySem.W.fnOf "slope" "Line.slope" (defArgs s_l_slope) (defBody s_l_slope) (defScope s_l_slope) .none kV_l_slope dc_l_slope pm_l_slope an_l_slope cd_l_slope ct_l_slope⟩,
        l_covers := ⟨f_l_covers, PySem.W.fnOf "covers" "Line.covers" (defArgs s_l_covers) (defBody s_l_covers) (defScope s_l_covers) .none kV_l_covers dc_l_covers pm_l_covers an_l_covers cd_l_covers ct_l_covers⟩,
        l_covered := ⟨f_l_covered, PySem.W.fnOf "covered" "Line.covered" (defArgs s_l_covered) (defBody s_l_covered) (defScope s_l_covered) .none kV_l_covered dc_l_covered pm_l_covered an_l_covered cd_l_covered ct_l_covered⟩,
        l_put := ⟨f_l_put, PySem.W.fnOf "put" "Line.put" (defArgs s_l_put) (defBody s_l_put) (defScope s_l_put) .none kV_l_put dc_l_put pm_l_put an_l_put cd_l_put ct_l_put⟩,
        l_way := ⟨f_l_way, PySem.W.fnOf "way" "Line.way" (defArgs s_l_way) (defBody s_l_way) (defScope s_l_way) .none kV_l_way dc_l_way pm_l_way an_l_way cd_l_way ct_l_way⟩,
        l_comes := ⟨f_l_comes, PySem.W.fnOf "comes" "Line.comes" (defArgs s_l_comes) (defBody s_l_comes) (defScope s_l_comes) .none kV_l_comes dc_l_comes pm_l_comes an_l_comes cd_l_comes ct_l_comes⟩,
        l_turned := ⟨f_l_turned, PySem.W.fnOf "turned" "Line.turned" (defArgs s_l_turned) (defBody s_l_turned) (defScope s_l_turned) .none kV_l_turned dc_l_turned pm_l_turned an_l_turned cd_l_turned ct_l_turned⟩,
        d_init := ⟨f_d_init, PySem.W.fnOf "__init__" "Desk.__init__" (defArgs s_d_init) (defBody s_d_init) (defScope s_d_init) .none kV_d_init dc_d_init pm_d_init an_d_init cd_d_init ct_d_init⟩,
        d_line := ⟨f_d_line, PySem.W.fnOf "line" "Desk.line" (defArgs s_d_line) (defBody s_d_line) (defScope s_d_line) .none kV_d_line dc_d_line pm_d_line an_d_line cd_d_line ct_d_line⟩,
        d_begin := ⟨f_d_begin, PySem.W.fnOf "begin" "Desk.begin" (defArgs s_d_begin) (defBody s_d_begin) (defScope s_d_begin) .none kV_d_begin dc_d_begin pm_d_begin an_d_begin cd_d_begin ct_d_begin⟩,
        d_set_point := ⟨f_d_set_point, PySem.W.fnOf "set_point" "Desk.set_point" (defArgs s_d_set_point) (defBody s_d_set_point) (defScope s_d_set_point) .none kV_d_set_point dc_d_set_point pm_d_set_point an_d_set_point cd_d_set_point ct_d_set_point⟩,
        d_set_row := ⟨f_d_set_row, PySem.W.fnOf "set_row" "Desk.set_row" (defArgs s_d_set_row) (defBody s_d_set_row) (defScope s_d_set_row) .none kV_d_set_row dc_d_set_row pm_d_set_row an_d_set_row cd_d_set_row ct_d_set_row⟩,
        d_place := ⟨f_d_place, PySem.W.fnOf "place" "Desk.place" (defArgs s_d_place) (defBody s_d_place) (defScope s_d_place) .none kV_d_place dc_d_place pm_d_place an_d_place cd_d_place ct_d_place⟩,
        d_want_piece := ⟨f_d_want_piece, PySem.W.fnOf "want_piece" "Desk.want_piece" (defArgs s_d_want_piece) (defBody s_d_want_piece) (defScope s_d_want_piece) .none kV_d_want_piece dc_d_want_piece pm_d_want_piece an_d_want_piece cd_d_want_piece ct_d_want_piece⟩,
        d_put := ⟨f_d_put, PySem.W.fnOf "put" "Desk.put" (defArgs s_d_put) (defBody s_d_put) (defScope s_d_put) .none kV_d_put dc_d_put pm_d_put an_d_put cd_d_put ct_d_put⟩,
        d_way := ⟨f_d_way, PySem.W.fnOf "way" "Desk.way" (defArgs s_d_way) (defBody s_d_way) (defScope s_d_way) .none kV_d_way dc_d_way pm_d_way an_d_way cd_d_way ct_d_way⟩,
        d_comes := ⟨f_d_comes, PySem.W.fnOf "comes" "Desk.comes" (defArgs s_d_comes) (defBody s_d_comes) (defScope s_d_comes) .none kV_d_comes dc_d_comes pm_d_comes an_d_comes cd_d_comes ct_d_comes⟩,
        d_covers := ⟨f_d_covers, PySem.W.fnOf "covers" "Desk.covers" (defArgs s_d_covers) (defBody s_d_covers) (defScope s_d_covers) .none kV_d_covers dc_d_covers pm_d_covers an_d_covers cd_d_covers ct_d_covers⟩,
        d_has := ⟨f_d_has, PySem.W.fnOf "has" "Desk.has" (defArgs s_d_has) (defBody s_d_has) (defScope s_d_has) .none kV_d_has dc_d_has pm_d_has an_d_has cd_d_has ct_d_has⟩,
        d_which := ⟨f_d_which, PySem.W.fnOf "which" "Desk.which" (defArgs s_d_which) (defBody s_d_which) (defScope s_d_which) .none kV_d_which dc_d_which pm_d_which an_d_which cd_d_which ct_d_which⟩,
        d_rounds_of := ⟨f_d_rounds_of, PySem.W.fnOf "rounds_of" "Desk.rounds_of" (defArgs s_d_rounds_of) (defBody s_d_rounds_of) (defScope s_d_rounds_of) .none kV_d_rounds_of dc_d_rounds_of pm_d_rounds_of an_d_rounds_of cd_d_rounds_of ct_d_rounds_of⟩,
        d_rounds := ⟨f_d_rounds, PySem.W.fnOf "rounds" "Desk.rounds" (defArgs s_d_rounds) (defBody s_d_rounds) (defScope s_d_rounds) .none kV_d_rounds dc_d_rounds pm_d_rounds an_d_rounds cd_d_rounds ct_d_rounds⟩,
        d_round_at := ⟨f_d_round_at, PySem.W.fnOf "round_at" "Desk.round_at" (defArgs s_d_round_at) (defBody s_d_round_at) (defScope s_d_round_at) .none kV_d_round_at dc_d_round_at pm_d_round_at an_d_round_at cd_d_round_at ct_d_round_at⟩,
        d_round := ⟨f_d_round, PySem.W.fnOf "round" "Desk.round" (defArgs s_d_round) (defBody s_d_round) (defScope s_d_round) .none kV_d_round dc_d_round pm_d_round an_d_round cd_d_round ct_d_round⟩,
        d_type_of := ⟨f_d_type_of, PySem.W.fnOf "type_of" "Desk.type_of" (defArgs s_d_type_of) (defBody s_d_type_of) (defScope s_d_type_of) .none kV_d_type_of dc_d_type_of pm_d_type_of an_d_type_of cd_d_type_of ct_d_type_of⟩,
        d_slope := ⟨f_d_slope, PySem.W.fnOf "slope" "Desk.slope" (defArgs s_d_slope) (defBody s_d_slope) (defScope s_d_slope) .none kV_d_slope dc_d_slope pm_d_slope an_d_slope cd_d_slope ct_d_slope⟩,
        d_turn := ⟨f_d_turn, PySem.W.fnOf "turn" "Desk.turn" (defArgs s_d_turn) (defBody s_d_turn) (defScope s_d_turn) .none kV_d_turn dc_d_turn pm_d_turn an_d_turn cd_d_turn ct_d_turn⟩,
        d_state := ⟨f_d_state, PySem.W.fnOf "state" "Desk.state" (defArgs s_d_state) (defBody s_d_state) (defScope s_d_state) .none kV_d_state dc_d_state pm_d_state an_d_state cd_d_state ct_d_state⟩,
        r_init := ⟨f_r_init, PySem.W.fnOf "__init__" "Refused.__init__" (defArgs s_r_init) (defBody s_r_init) (defScope s_r_init) .none kV_r_init dc_r_init pm_r_init an_r_init cd_r_init ct_r_init⟩ } :=
    { clL := ⟨pg_cL, hd_cL, po_cL, sa_cL⟩, clD := ⟨pg_cD, hd_cD, po_cD, sa_cD⟩, mkL := ⟨mk_cL, a_l_init, i_l_init, kc_cL⟩, mkD := ⟨mk_cD, a_d_init, i_d_init, kc_cD⟩,
      gL := PySem.W.mg_of X G g_cL, gD := PySem.W.mg_of X G g_cD, gR := PySem.W.mg_of X G g_cR, nPoints := nPo, nFound := nFo, nOwn := nOw,
      oR := ⟨⟨nm_r, q_r, N_r, bs_r, _, sn_r, sub_r, ab_r, col_r, dd_r, m0_r, m1_r, m2_r, m3_r, m5_r, xL, by decide +kernel⟩, sa_cR, eC_cR, tC_cR, kC_cR⟩, iR := a_r_init, tR := t_r_init, xR := ⟨ga_cR, gg_cR, eC_cR, hC_cR⟩, noR := no_cR, eR := own_named eC_cR iC_cR tC_cR sC_cR, vV := vV,
      fnR := fun_mk l_r_init c_r_init k_r_init, bR := (fun_mk (st := s_r_init) l_r_init c_r_init k_r_init).binds (fun _ _ _ _ _ _ us hl => match us, hl with | [_, _], _ => rfl),
      gN := PySem.W.mg_of X G gNu, tN := fun H => .inr ⟨_, _, nN, lNu, rfl, rfl, line_le (by show 16 ≤ 16777216; decide), .cons ⟨u0, rfl⟩ (.cons ⟨u1, rfl⟩ (.cons ⟨u2, rfl⟩ (.cons ⟨u3, rfl⟩ (.cons ⟨u4, rfl⟩ (.cons ⟨u5, rfl⟩ (.cons ⟨u6, rfl⟩ (.cons ⟨u7, rfl⟩ (.cons ⟨u8, rfl⟩ (.cons ⟨u9, rfl⟩ (.cons ⟨u10, rfl⟩ (.cons ⟨u11, rfl⟩ (.cons ⟨u12, rfl⟩ (.cons ⟨u13, rfl⟩ (.cons ⟨u14, rfl⟩ (.cons ⟨u15, rfl⟩ (.nil))))))))))))))))⟩,
      b_len := PySem.W.mg_none_of X G b_len, b_range := PySem.W.mg_none_of X G b_range, b_min := PySem.W.mg_none_of X G b_min, b_max := PySem.W.mg_none_of X G b_max, b_all := PySem.W.mg_none_of X G b_all, b_any := PySem.W.mg_none_of X G b_any, b_sorted := PySem.W.mg_none_of X G b_sorted, b_int := PySem.W.mg_none_of X G b_int, b_list := PySem.W.mg_none_of X G b_list, b_ValueError := PySem.W.mg_none_of X G b_ValueError,
      c_MOST_STEPS := ⟨_, PySem.W.mg_of X G c_MOST_STEPS⟩, c_SCALE := ⟨_, PySem.W.mg_of X G c_SCALE⟩, c_NO_SUCH := ⟨_, PySem.W.mg_of X G c_NO_SUCH⟩, c_NOT_BEGUN := ⟨_, PySem.W.mg_of X G c_NOT_BEGUN⟩, c_NOT_AS_TOLD := ⟨_, PySem.W.mg_of X G c_NOT_AS_TOLD⟩, c_NO_MORE := ⟨_, PySem.W.mg_of X G c_NO_MORE⟩, c_ENDLESS := ⟨_, PySem.W.mg_of X G c_ENDLESS⟩, c_MOST_PIECES := ⟨_, PySem.W.mg_of X G c_MOST_PIECES⟩, c_MOST_BELOW := ⟨_, PySem.W.mg_of X G c_MOST_BELOW⟩, c_MOST_IN_WAY := ⟨_, PySem.W.mg_of X G c_MOST_IN_WAY⟩, c_MOST_BROUGHT := ⟨_, PySem.W.mg_of X G c_MOST_BROUGHT⟩, c_ROW := ⟨_, PySem.W.mg_of X G c_ROW⟩,
      divisor_of := gf_mk X G a_divisor_of l_divisor_of c_divisor_of k_divisor_of (fun _ _ _ _ _ _ us hl => match us, hl with | [_, _], _ => rfl),
      fraction := gf_mk X G a_fraction l_fraction c_fraction k_fraction (fun _ _ _ _ _ _ us hl => match us, hl with | [_, _], _ => rfl),
      parted := gf_mk X G a_parted l_parted c_parted k_parted (fun _ _ _ _ _ _ us hl => match us, hl with | [_], _ => rfl),
      brings := gf_mk X G a_brings l_brings c_brings k_brings (fun _ _ _ _ _ _ us hl => match us, hl with | [_, _], _ => rfl),
      longer_walks := gf_mk X G a_longer_walks l_longer_walks c_longer_walks k_longer_walks (fun _ _ _ _ _ _ us hl => match us, hl with | [_, _, _], _ => rfl),
      is_least_turn := gf_mk X G a_is_least_turn l_is_least_turn c_is_least_turn k_is_least_turn (fun _ _ _ _ _ _ us hl => match us, hl with | [_], _ => rfl),
      closed_walks := gf_mk X G a_closed_walks l_closed_walks c_closed_walks k_closed_walks (fun _ _ _ _ _ _ us hl => match us, hl with | [_, _], _ => rfl),
      factor_and_more := gf_mk X G a_factor_and_more l_factor_and_more c_factor_and_more k_factor_and_more (fun _ _ _ _ _ _ us hl => match us, hl with | [_, _], _ => rfl),
      round_of := gf_mk X G a_round_of l_round_of c_round_of k_round_of (fun _ _ _ _ _ _ us hl => match us, hl with | [_, _], _ => rfl),
      from_least := gf_mk X G a_from_least l_from_least c_from_least k_from_least (fun _ _ _ _ _ _ us hl => match us, hl with | [_, _], _ => rfl),
      point_rounds := gf_mk X G a_point_rounds l_point_rounds c_point_rounds k_point_rounds (fun _ _ _ _ _ _ us hl => match us, hl with | [_, _], _ => rfl),
      steps_of_all := gf_mk X G a_steps_of_all l_steps_of_all c_steps_of_all k_steps_of_all (fun _ _ _ _ _ _ us hl => match us, hl with | [_, _], _ => rfl),
      is_endless := gf_mk X G a_is_endless l_is_endless c_is_endless k_is_endless (fun _ _ _ _ _ _ us hl => match us, hl with | [_, _], _ => rfl),
      key_of := gf_mk X G a_key_of l_key_of c_key_of k_key_of (fun _ _ _ _ _ _ us hl => match us, hl with | [_], _ => rfl),
      all_rounds := gf_mk X G a_all_rounds l_all_rounds c_all_rounds k_all_rounds (fun _ _ _ _ _ _ us hl => match us, hl with | [_, _], _ => rfl),
      has_round := gf_mk X G a_has_round l_has_round c_has_round k_has_round (fun _ _ _ _ _ _ us hl => match us, hl with | [_, _], _ => rfl),
      want := gf_mk X G a_want l_want c_want k_want (fun _ _ _ _ _ _ us hl => match us, hl with | [_, _], _ => rfl),
      want_steps := gf_mk X G a_want_steps l_want_steps c_want_steps k_want_steps (fun _ _ _ _ _ _ us hl => match us, hl with | [_], _ => rfl),
      ranks_of := gf_mk X G a_ranks_of l_ranks_of c_ranks_of k_ranks_of (fun _ _ _ _ _ _ us hl => match us, hl with | [_], _ => rfl),
      do_brings := gf_mk X G a_do_brings l_do_brings c_do_brings k_do_brings (fun _ _ _ _ _ _ us hl => match us, hl with | [_, _], _ => rfl),
      of_line := gf_mk X G a_of_line l_of_line c_of_line k_of_line (fun _ _ _ _ _ _ us hl => match us, hl with | [_, _, _, _], _ => rfl),
      of_rounds := gf_mk X G a_of_rounds l_of_rounds c_of_rounds k_of_rounds (fun _ _ _ _ _ _ us hl => match us, hl with | [_, _, _], _ => rfl),
      told := gf_mk X G a_told l_told c_told k_told (fun _ _ _ _ _ _ us hl => match us, hl with | [_, _, _, _], _ => rfl),
      answered := gf_mk X G a_answered l_answered c_answered k_answered (fun _ _ _ _ _ _ us hl => match us, hl with | [_, _, _, _], _ => rfl),
      answers := gf_mk X G a_answers l_answers c_answers k_answers (fun _ _ _ _ _ _ us hl => match us, hl with | [_], _ => rfl),
      l_init := mf_mk a_l_init i_l_init l_l_init c_l_init k_l_init (fun _ _ _ _ _ _ us hl => match us, hl with | [_, _], _ => rfl),
      l_many := mf_mk a_l_many i_l_many l_l_many c_l_many k_l_many (fun _ _ _ _ _ _ us hl => match us, hl with | [_], _ => rfl),
      l_slope := mf_mk a_l_slope i_l_slope l_l_slope c_l_slope k_l_slope (fun _ _ _ _ _ _ us hl => match us, hl with | [_, _], _ => rfl),
      l_covers := mf_mk a_l_covers i_l_covers l_l_covers c_l_covers k_l_covers (fun _ _ _ _ _ _ us hl => match us, hl with | [_, _, _], _ => rfl),
      l_covered := mf_mk a_l_covered i_l_covered l_l_covered c_l_covered k_l_covered (fun _ _ _ _ _ _ us hl => match us, hl with | [_, _], _ => rfl),
      l_put := mf_mk a_l_put i_l_put l_l_put c_l_put k_l_put (fun _ _ _ _ _ _ us hl => match us, hl with | [_, _], _ => rfl),
      l_way := mf_mk a_l_way i_l_way l_l_way c_l_way k_l_way (fun _ _ _ _ _ _ us hl => match us, hl with | [_, _, _], _ => rfl),
      l_comes := mf_mk a_l_comes i_l_comes l_l_comes c_l_comes k_l_comes (fun _ _ _ _ _ _ us hl => match us, hl with | [_, _], _ => rfl),
      l_turned := mf_mk a_l_turned i_l_turned l_l_turned c_l_turned k_l_turned (fun _ _ _ _ _ _ us hl => match us, hl with | [_], _ => rfl),
      d_init := mf_mk a_d_init i_d_init l_d_init c_d_init k_d_init (fun _ _ _ _ _ _ us hl => match us, hl with | [_], _ => rfl),
      d_line := mf_mk a_d_line i_d_line l_d_line c_d_line k_d_line (fun _ _ _ _ _ _ us hl => match us, hl with | [_], _ => rfl),
      d_begin := mf_mk a_d_begin i_d_begin l_d_begin c_d_begin k_d_begin (fun _ _ _ _ _ _ us hl => match us, hl with | [_, _], _ => rfl),
      d_set_point := mf_mk a_d_set_point i_d_set_point l_d_set_point c_d_set_point k_d_set_point (fun _ _ _ _ _ _ us hl => match us, hl with | [_, _, _], _ => rfl),
      d_set_row := mf_mk a_d_set_row i_d_set_row l_d_set_row c_d_set_row k_d_set_row (fun _ _ _ _ _ _ us hl => match us, hl with | [_, _], _ => rfl),
      d_place := mf_mk a_d_place i_d_place l_d_place c_d_place k_d_place (fun _ _ _ _ _ _ us hl => match us, hl with | [_, _, _], _ => rfl),
      d_want_piece := mf_mk a_d_want_piece i_d_want_piece l_d_want_piece c_d_want_piece k_d_want_piece (fun _ _ _ _ _ _ us hl => match us, hl with | [_, _], _ => rfl),
      d_put := mf_mk a_d_put i_d_put l_d_put c_d_put k_d_put (fun _ _ _ _ _ _ us hl => match us, hl with | [_, _, _], _ => rfl),
      d_way := mf_mk a_d_way i_d_way l_d_way c_d_way k_d_way (fun _ _ _ _ _ _ us hl => match us, hl with | [_, _, _, _], _ => rfl),
      d_comes := mf_mk a_d_comes i_d_comes l_d_comes c_d_comes k_d_comes (fun _ _ _ _ _ _ us hl => match us, hl with | [_, _, _], _ => rfl),
      d_covers := mf_mk a_d_covers i_d_covers l_d_covers c_d_covers k_d_covers (fun _ _ _ _ _ _ us hl => match us, hl with | [_, _, _], _ => rfl),
      d_has := mf_mk a_d_has i_d_has l_d_has c_d_has k_d_has (fun _ _ _ _ _ _ us hl => match us, hl with | [_, _], _ => rfl),
      d_which := mf_mk a_d_which i_d_which l_d_which c_d_which k_d_which (fun _ _ _ _ _ _ us hl => match us, hl with | [_], _ => rfl),
      d_rounds_of := mf_mk a_d_rounds_of i_d_rounds_of l_d_rounds_of c_d_rounds_of k_d_rounds_of (fun _ _ _ _ _ _ us hl => match us, hl with | [_, _], _ => rfl),
      d_rounds := mf_mk a_d_rounds i_d_rounds l_d_rounds c_d_rounds k_d_rounds (fun _ _ _ _ _ _ us hl => match us, hl with | [_, _], _ => rfl),
      d_round_at := mf_mk a_d_round_at i_d_round_at l_d_round_at c_d_round_at k_d_round_at (fun _ _ _ _ _ _ us hl => match us, hl with | [_, _, _], _ => rfl),
      d_round := mf_mk a_d_round i_d_round l_d_round c_d_round k_d_round (fun _ _ _ _ _ _ us hl => match us, hl with | [_, _, _], _ => rfl),
      d_type_of := mf_mk a_d_type_of i_d_type_of l_d_type_of c_d_type_of k_d_type_of (fun _ _ _ _ _ _ us hl => match us, hl with | [_, _, _], _ => rfl),
      d_slope := mf_mk a_d_slope i_d_slope l_d_slope c_d_slope k_d_slope (fun _ _ _ _ _ _ us hl => match us, hl with | [_, _], _ => rfl),
      d_turn := mf_mk a_d_turn i_d_turn l_d_turn c_d_turn k_d_turn (fun _ _ _ _ _ _ us hl => match us, hl with | [_], _ => rfl),
      d_state := mf_mk a_d_state i_d_state l_d_state c_d_state k_d_state (fun _ _ _ _ _ _ us hl => match us, hl with | [_], _ => rfl) }
  exact ⟨PySem.W.fnOf "answers" "answers" (defArgs s_answers) (defBody s_answers) (defScope s_answers) .none kV_answers dc_answers pm_answers an_answers cd_answers ct_answers, fun s us hu => match us, hu with | [_], _ => .of_eq rfl, fun base _ _ => ok_answers T⟩
end
end FW

namespace FW
open PySem PySem.Spec PyProof.Rows L2
/-! ## What is asked, opened -/
theorem asked_open {l : List Int} (h : PySu183.answers_asked l = true) : ∃ raw, PyFlat.calls PySu183.shape l.length l = some raw ∧ (∀ c ∈ raw, PyInside.call PySu183.bound c = true) ∧ PySu183.answers l = outs none raw ∧ (outs none raw).length ≤ 10000000 := by
  unfold PySu183.answers_asked at h
  cases e : PyFlat.calls PySu183.shape l.length l with
  | none =>
    rw [e] at h
    cases h
  | some raw =>
    rw [e] at h
    simp only at h
    rw [Bool.and_eq_true, Bool.and_eq_true, Bool.and_eq_true] at h
    obtain ⟨⟨⟨_, hb⟩, _⟩, hsh⟩ := h
    have ea : PySu183.answers l = outs none raw := by
      unfold PySu183.answers PySu183.calls
      rw [e]
      rfl
    refine ⟨raw, rfl, ?_, ea, ?_⟩
    · have hb' : raw.all (PyInside.call PySu183.bound) = true := hb
      rw [List.all_eq_true] at hb'
      exact hb'
    · rw [← ea]
      exact of_decide_eq_true hsh
open PySem.W in
theorem end_s {K : PySem.W.Frag} {H : L2.Hp} (a : Codec.denoteAll PySem.Challenge.rw_foldedline_s01_answers.args) {b : Addr} (hask : Codec.app PySem.Challenge.rw_foldedline_s01_answers.args PySem.Challenge.rw_foldedline_s01_answers.asked a = true)
    (hs : L2.SqL K H b (List.map L2.V.int a.fst)) : spAns K [L2.V.ref b] H (fun v H' => L2.Dw K H' v (PySem.Challenge.rw_foldedline_s01_answers.ret.enc (Codec.app PySem.Challenge.rw_foldedline_s01_answers.args PySem.Challenge.rw_foldedline_s01_answers.f a))) (fun _ _ _ => False) := by
  have h : PySu183.answers_asked a.fst = true := hask
  obtain ⟨raw, h1, h2, h3, h4⟩ := asked_open h
  refine ⟨b, a.fst, raw, a.fst.length, rfl, hs, h1, h2, h4, fun H' p hp => ?_⟩
  have e : Codec.app PySem.Challenge.rw_foldedline_s01_answers.args PySem.Challenge.rw_foldedline_s01_answers.f a = PySu183.answers a.fst := rfl
  rw [e, h3]
  exact .lst (L2.SqL.of hp) (L2.dw_ints _)
end FW

open PySem PySem.W PyProof.Rows
set_option maxRecDepth 100000 in
set_option maxHeartbeats 8000000 in
theorem PySem.Challenge.cw_foldedline_s01_answers_holds : PySem.Challenge.rw_foldedline_s01_answers.Holds := by
  w_on; k_headS; (case hw => exact ⟨[.list [.int 8]], by decide +kernel, by decide +kernel⟩)
  k_fillS
  refine L2.walk_specK (r := PySem.Challenge.rw_foldedline_s01_answers) (k := 13) (CX := L2.CX0) (ps := ["calls"]) (sp := FW.spAns) (by decide +kernel) rfl rfl ⟨rfl, by decide, by decide⟩ (fun w h Y => PySem.W.kIn_of Y) ?F ?S (fun _ _ _ _ z => z)
  case F =>
    intro w mg fa h Y KX G hmg
    refine' FW.all_mk KX G hmg ?g_cL ?g_cD ?g_cR ?a_divisor_of ?l_divisor_of ?c_divisor_of ?k_divisor_of ?a_fraction ?l_fraction ?c_fraction ?k_fraction ?a_parted ?l_parted ?c_parted ?k_parted ?a_brings ?l_brings ?c_brings ?k_brings ?a_longer_walks ?l_longer_walks ?c_longer_walks ?k_longer_walks ?a_is_least_turn ?l_is_least_turn ?c_is_least_turn ?k_is_least_turn ?a_closed_walks ?l_closed_walks ?c_closed_walks ?k_closed_walks ?a_factor_and_more ?l_factor_and_more ?c_factor_and_more ?k_factor_and_more ?a_round_of ?l_round_of ?c_round_of ?k_round_of ?a_from_least ?l_from_least ?c_from_least ?k_from_least ?a_point_rounds ?l_point_rounds ?c_point_rounds ?k_point_rounds ?a_steps_of_all ?l_steps_of_all ?c_steps_of_all ?k_steps_of_all ?a_is_endless ?l_is_endless ?c_is_endless ?k_is_endless ?a_key_of ?l_key_of ?c_key_of ?k_key_of ?a_all_rounds ?l_all_rounds ?c_all_rounds ?k_all_rounds ?a_has_round ?l_has_round ?c_has_round ?k_has_round ?a_want ?l_want ?c_want ?k_want ?a_want_steps ?l_want_steps ?c_want_steps ?k_want_steps ?a_ranks_of ?l_ranks_of ?c_ranks_of ?k_ranks_of ?a_do_brings ?l_do_brings ?c_do_brings ?k_do_brings ?a_of_line ?l_of_line ?c_of_line ?k_of_line ?a_of_rounds ?l_of_rounds ?c_of_rounds ?k_of_rounds ?a_told ?l_told ?c_told ?k_told ?a_answered ?l_answered ?c_answered ?k_answered ?a_answers ?l_answers ?c_answers ?k_answers ?a_l_init ?i_l_init ?l_l_init ?c_l_init ?k_l_init ?a_l_many ?i_l_many ?l_l_many ?c_l_many ?k_l_many ?a_l_slope ?i_l_slope ?l_l_slope ?c_l_slope ?k_l_slope ?a_l_covers ?i_l_covers ?l_l_covers ?c_l_covers ?k_l_covers ?a_l_covered ?i_l_covered ?l_l_covered ?c_l_covered ?k_l_covered ?a_l_put ?i_l_put ?l_l_put ?c_l_put ?k_l_put ?a_l_way ?i_l_way ?l_l_way ?c_l_way ?k_l_way ?a_l_comes ?i_l_comes ?l_l_comes ?c_l_comes ?k_l_comes ?a_l_turned ?i_l_turned ?l_l_turned ?c_l_turned ?k_l_turned ?a_d_init ?i_d_init ?l_d_init ?c_d_init ?k_d_init ?a_d_line ?i_d_line ?l_d_line ?c_d_line ?k_d_line ?a_d_begin ?i_d_begin ?l_d_begin ?c_d_begin ?k_d_begin ?a_d_set_point ?i_d_set_point ?l_d_set_point ?c_d_set_point ?k_d_set_point ?a_d_set_row ?i_d_set_row ?l_d_set_row ?c_d_set_row ?k_d_set_row ?a_d_place ?i_d_place ?l_d_place ?c_d_place ?k_d_place ?a_d_want_piece ?i_d_want_piece ?l_d_want_piece ?c_d_want_piece ?k_d_want_piece ?a_d_put ?i_d_put ?l_d_put ?c_d_put ?k_d_put ?a_d_way ?i_d_way ?l_d_way ?c_d_way ?k_d_way ?a_d_comes ?i_d_comes ?l_d_comes ?c_d_comes ?k_d_comes ?a_d_covers ?i_d_covers ?l_d_covers ?c_d_covers ?k_d_covers ?a_d_has ?i_d_has ?l_d_has ?c_d_has ?k_d_has ?a_d_which ?i_d_which ?l_d_which ?c_d_which ?k_d_which ?a_d_rounds_of ?i_d_rounds_of ?l_d_rounds_of ?c_d_rounds_of ?k_d_rounds_of ?a_d_rounds ?i_d_rounds ?l_d_rounds ?c_d_rounds ?k_d_rounds ?a_d_round_at ?i_d_round_at ?l_d_round_at ?c_d_round_at ?k_d_round_at ?a_d_round ?i_d_round ?l_d_round ?c_d_round ?k_d_round ?a_d_type_of ?i_d_type_of ?l_d_type_of ?c_d_type_of ?k_d_type_of ?a_d_slope ?i_d_slope ?l_d_slope ?c_d_slope ?k_d_slope ?a_d_turn ?i_d_turn ?l_d_turn ?c_d_turn ?k_d_turn ?a_d_state ?i_d_state ?l_d_state ?c_d_state ?k_d_state ?a_r_init ?t_r_init ?l_r_init ?c_r_init ?k_r_init ?pg_cL ?hd_cL ?po_cL ?sa_cL ?mk_cL ?kc_cL ?pg_cD ?hd_cD ?po_cD ?sa_cD ?mk_cD ?kc_cD ?nPo ?nFo ?nOw ?xL ?sa_cR ?ga_cR ?gg_cR ?no_cR ?kC_cR ?eC_cR ?tC_cR ?hC_cR ?iC_cR ?sC_cR ?vV ?gNu ?lNu ?b_len ?b_range ?b_min ?b_max ?b_all ?b_any ?b_sorted ?b_int ?b_list ?b_ValueError ?c_MOST_STEPS ?c_SCALE ?c_NO_SUCH ?c_NOT_BEGUN ?c_NOT_AS_TOLD ?c_NO_MORE ?c_ENDLESS ?c_MOST_PIECES ?c_MOST_BELOW ?c_MOST_IN_WAY ?c_MOST_BROUGHT ?c_ROW
    (case g_cL => k_is)
    (case g_cD => k_is)
    (case g_cR => k_is)
    (case a_divisor_of => k_is)
    (case l_divisor_of => k_is)
    (case c_divisor_of => k_is)
    (case k_divisor_of => k_is)
    (case a_fraction => k_is)
    (case l_fraction => k_is)
    (case c_fraction => k_is)
    (case k_fraction => k_is)
    (case a_parted => k_is)
    (case l_parted => k_is)
    (case c_parted => k_is)
    (case k_parted => k_is)
    (case a_brings => k_is)
    (case l_brings => k_is)
    (case c_brings => k_is)
    (case k_brings => k_is)
    (case a_longer_walks => k_is)
    (case l_longer_walks => k_is)
    (case c_longer_walks => k_is)
    (case k_longer_walks => k_is)
    (case a_is_least_turn => k_is)
    (case l_is_least_turn => k_is)
    (case c_is_least_turn => k_is)
    (case k_is_least_turn => k_is)
    (case a_closed_walks => k_is)
    (case l_closed_walks => k_is)
    (case c_closed_walks => k_is)
    (case k_closed_walks => k_is)
    (case a_factor_and_more => k_is)
    (case l_factor_and_more => k_is)
    (case c_factor_and_more => k_is)
    (case k_factor_and_more => k_is)
    (case a_round_of => k_is)
    (case l_round_of => k_is)
    (case c_round_of => k_is)
    (case k_round_of => k_is)
    (case a_from_least => k_is)
    (case l_from_least => k_is)
    (case c_from_least => k_is)
    (case k_from_least => k_is)
    (case a_point_rounds => k_is)
    (case l_point_rounds => k_is)
    (case c_point_rounds => k_is)
    (case k_point_rounds => k_is)
    (case a_steps_of_all => k_is)
    (case l_steps_of_all => k_is)
    (case c_steps_of_all => k_is)
    (case k_steps_of_all => k_is)
    (case a_is_endless => k_is)
    (case l_is_endless => k_is)
    (case c_is_endless => k_is)
    (case k_is_endless => k_is)
    (case a_key_of => k_is)
    (case l_key_of => k_is)
    (case c_key_of => k_is)
    (case k_key_of => k_is)
    (case a_all_rounds => k_is)
    (case l_all_rounds => k_is)
    (case c_all_rounds => k_is)
    (case k_all_rounds => k_is)
    (case a_has_round => k_is)
    (case l_has_round => k_is)
    (case c_has_round => k_is)
    (case k_has_round => k_is)
    (case a_want => k_is)
    (case l_want => k_is)
    (case c_want => k_is)
    (case k_want => k_is)
    (case a_want_steps => k_is)
    (case l_want_steps => k_is)
    (case c_want_steps => k_is)
    (case k_want_steps => k_is)
    (case a_ranks_of => k_is)
    (case l_ranks_of => k_is)
    (case c_ranks_of => k_is)
    (case k_ranks_of => k_is)
    (case a_do_brings => k_is)
    (case l_do_brings => k_is)
    (case c_do_brings => k_is)
    (case k_do_brings => k_is)
    (case a_of_line => k_is)
    (case l_of_line => k_is)
    (case c_of_line => k_is)
    (case k_of_line => k_is)
    (case a_of_rounds => k_is)
    (case l_of_rounds => k_is)
    (case c_of_rounds => k_is)
    (case k_of_rounds => k_is)
    (case a_told => k_is)
    (case l_told => k_is)
    (case c_told => k_is)
    (case k_told => k_is)
    (case a_answered => k_is)
    (case l_answered => k_is)
    (case c_answered => k_is)
    (case k_answered => k_is)
    (case a_answers => k_is)
    (case l_answers => k_is)
    (case c_answers => k_is)
    (case k_answers => k_is)
    (case a_l_init => k_is)
    (case i_l_init => k_is)
    (case l_l_init => k_is)
    (case c_l_init => k_is)
    (case k_l_init => k_is)
    (case a_l_many => k_is)
    (case i_l_many => k_is)
    (case l_l_many => k_is)
    (case c_l_many => k_is)
    (case k_l_many => k_is)
    (case a_l_slope => k_is)
    (case i_l_slope => k_is)
    (case l_l_slope => k_is)
    (case c_l_slope => k_is)
    (case k_l_slope => k_is)
    (case a_l_covers => k_is)
    (case i_l_covers => k_is)
    (case l_l_covers => k_is)
    (case c_l_covers => k_is)
    (case k_l_covers => k_is)
    (case a_l_covered => k_is)
    (case i_l_covered => k_is)
    (case l_l_covered => k_is)
    (case c_l_covered => k_is)
    (case k_l_covered => k_is)
    (case a_l_put => k_is)
    (case i_l_put => k_is)
    (case l_l_put => k_is)
    (case c_l_put => k_is)
    (case k_l_put => k_is)
    (case a_l_way => k_is)
    (case i_l_way => k_is)
    (case l_l_way => k_is)
    (case c_l_way => k_is)
    (case k_l_way => k_is)
    (case a_l_comes => k_is)
    (case i_l_comes => k_is)
    (case l_l_comes => k_is)
    (case c_l_comes => k_is)
    (case k_l_comes => k_is)
    (case a_l_turned => k_is)
    (case i_l_turned => k_is)
    (case l_l_turned => k_is)
    (case c_l_turned => k_is)
    (case k_l_turned => k_is)
    (case a_d_init => k_is)
    (case i_d_init => k_is)
    (case l_d_init => k_is)
    (case c_d_init => k_is)
    (case k_d_init => k_is)
    (case a_d_line => k_is)
    (case i_d_line => k_is)
    (case l_d_line => k_is)
    (case c_d_line => k_is)
    (case k_d_line => k_is)
    (case a_d_begin => k_is)
    (case i_d_begin => k_is)
    (case l_d_begin => k_is)
    (case c_d_begin => k_is)
    (case k_d_begin => k_is)
    (case a_d_set_point => k_is)
    (case i_d_set_point => k_is)
    (case l_d_set_point => k_is)
    (case c_d_set_point => k_is)
    (case k_d_set_point => k_is)
    (case a_d_set_row => k_is)
    (case i_d_set_row => k_is)
    (case l_d_set_row => k_is)
    (case c_d_set_row => k_is)
    (case k_d_set_row => k_is)
    (case a_d_place => k_is)
    (case i_d_place => k_is)
    (case l_d_place => k_is)
    (case c_d_place => k_is)
    (case k_d_place => k_is)
    (case a_d_want_piece => k_is)
    (case i_d_want_piece => k_is)
    (case l_d_want_piece => k_is)
    (case c_d_want_piece => k_is)
    (case k_d_want_piece => k_is)
    (case a_d_put => k_is)
    (case i_d_put => k_is)
    (case l_d_put => k_is)
    (case c_d_put => k_is)
    (case k_d_put => k_is)
    (case a_d_way => k_is)
    (case i_d_way => k_is)
    (case l_d_way => k_is)
    (case c_d_way => k_is)
    (case k_d_way => k_is)
    (case a_d_comes => k_is)
    (case i_d_comes => k_is)
    (case l_d_comes => k_is)
    (case c_d_comes => k_is)
    (case k_d_comes => k_is)
    (case a_d_covers => k_is)
    (case i_d_covers => k_is)
    (case l_d_covers => k_is)
    (case c_d_covers => k_is)
    (case k_d_covers => k_is)
    (case a_d_has => k_is)
    (case i_d_has => k_is)
    (case l_d_has => k_is)
    (case c_d_has => k_is)
    (case k_d_has => k_is)
    (case a_d_which => k_is)
    (case i_d_which => k_is)
    (case l_d_which => k_is)
    (case c_d_which => k_is)
    (case k_d_which => k_is)
    (case a_d_rounds_of => k_is)
    (case i_d_rounds_of => k_is)
    (case l_d_rounds_of => k_is)
    (case c_d_rounds_of => k_is)
    (case k_d_rounds_of => k_is)
    (case a_d_rounds => k_is)
    (case i_d_rounds => k_is)
    (case l_d_rounds => k_is)
    (case c_d_rounds => k_is)
    (case k_d_rounds => k_is)
    (case a_d_round_at => k_is)
    (case i_d_round_at => k_is)
    (case l_d_round_at => k_is)
    (case c_d_round_at => k_is)
    (case k_d_round_at => k_is)
    (case a_d_round => k_is)
    (case i_d_round => k_is)
    (case l_d_round => k_is)
    (case c_d_round => k_is)
    (case k_d_round => k_is)
    (case a_d_type_of => k_is)
    (case i_d_type_of => k_is)
    (case l_d_type_of => k_is)
    (case c_d_type_of => k_is)
    (case k_d_type_of => k_is)
    (case a_d_slope => k_is)
    (case i_d_slope => k_is)
    (case l_d_slope => k_is)
    (case c_d_slope => k_is)
    (case k_d_slope => k_is)
    (case a_d_turn => k_is)
    (case i_d_turn => k_is)
    (case l_d_turn => k_is)
    (case c_d_turn => k_is)
    (case k_d_turn => k_is)
    (case a_d_state => k_is)
    (case i_d_state => k_is)
    (case l_d_state => k_is)
    (case c_d_state => k_is)
    (case k_d_state => k_is)
    (case a_r_init => k_is)
    (case t_r_init => k_is)
    (case l_r_init => k_is)
    (case c_r_init => k_is)
    (case k_r_init => k_is)
    (case pg_cL => k_is)
    (case hd_cL => k_is)
    (case po_cL => k_is)
    (case sa_cL => k_is)
    (case mk_cL => k_is)
    (case kc_cL => k_is)
    (case pg_cD => k_is)
    (case hd_cD => k_is)
    (case po_cD => k_is)
    (case sa_cD => k_is)
    (case mk_cD => k_is)
    (case kc_cD => k_is)
    (case nPo => k_is)
    (case nFo => k_is)
    (case nOw => k_is)
    (case xL => k_is)
    (case sa_cR => k_is)
    (case ga_cR => k_is)
    (case gg_cR => k_is)
    (case no_cR => k_is)
    (case kC_cR => k_is)
    (case eC_cR => k_is)
    (case tC_cR => k_is)
    (case hC_cR => k_is)
    (case iC_cR => k_is)
    (case sC_cR => first | rfl | k_is)
    (case vV => k_is)
    (case gNu => k_is)
    (case lNu => k_is)
    (case b_len => k_is)
    (case b_range => k_is)
    (case b_min => k_is)
    (case b_max => k_is)
    (case b_all => k_is)
    (case b_any => k_is)
    (case b_sorted => k_is)
    (case b_int => k_is)
    (case b_list => k_is)
    (case b_ValueError => k_is)
    (case c_MOST_STEPS => k_is)
    (case c_SCALE => k_is)
    (case c_NO_SUCH => k_is)
    (case c_NOT_BEGUN => k_is)
    (case c_NOT_AS_TOLD => k_is)
    (case c_NO_MORE => k_is)
    (case c_ENDLESS => k_is)
    (case c_MOST_PIECES => k_is)
    (case c_MOST_BELOW => k_is)
    (case c_MOST_IN_WAY => k_is)
    (case c_MOST_BROUGHT => k_is)
    (case c_ROW => k_is)
  case S =>
    intro K H xs a hO hwi hask hx
    cases hx with
    | cons h1 h2 =>
      cases h2
      cases h1 with
      | lst hs ha =>
        have e := L2.ints_dw a.1 _ ha
        subst e
        exact FW.end_s a hask hs
