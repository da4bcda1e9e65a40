/- Points: what the printed functions come to, by numbers alone. -/
import Derived.Test.YtfkjmmpolingbaaSaidPointNorms
import Derived.Test.YtfkjmmpolingbaaSaidPointTwins
namespace Go.Proofs.Ytfkjmmpolingbaa.PlainPoint
open Go.RowKit Go.Proofs.YtfkjmmpolingbaaW.PrintWords Go.Proofs.YtfkjmmpolingbaaW.PrintLast Go.Proofs.Ytfkjmmpolingbaa.XA
set_option linter.unusedVariables false
set_option linter.unusedSimpArgs false

def inR (a b : Int) : Bool := decide (-16 ≤ a) && (decide (a ≤ 16) && (decide (-16 ≤ b) && decide (b ≤ 16)))
theorem inR_iff {a b : Int} : inR a b = true ↔ -16 ≤ a ∧ a ≤ 16 ∧ -16 ≤ b ∧ b ≤ 16 := by simp [inR]

theorem in_at (a b : Int) : point_In.f a b = some (inR a b) := by
  unfold point_In.f point_within.f inR
  by_cases h1 : -16 ≤ a <;> by_cases h2 : a ≤ 16 <;> by_cases h3 : -16 ≤ b <;> by_cases h4 : b ≤ 16 <;> simp [h1, h2, h3, h4]
theorem refIn_at (a b : Int) : swageref06_In.f a b = some (inR a b) := by
  unfold swageref06_In.f inR
  by_cases h1 : -16 ≤ a <;> by_cases h2 : a ≤ 16 <;> by_cases h3 : -16 ≤ b <;> by_cases h4 : b ≤ 16 <;> simp [h1, h2, h3, h4]

/-- The norm, as it is reckoned. -/
def nrm (a b : Int) : Int × Int := (point_norm.f 60 a b).getD (0, 0)
def fac (a b : Int) : Int := if (nrm a b).1 = 0 then (if (nrm a b).2 = 0 then 0 else a + b / (nrm a b).2) else a / (nrm a b).1
def chk (a b : Int) : Bool :=
  point_norm.f 60 a b == some (nrm a b) && (swageref06_Norm.f 60 a b == some (nrm a b) && (inR (nrm a b).1 (nrm a b).2 && (point_norm.f 60 (nrm a b).1 (nrm a b).2 == some (nrm a b) &&
    (if a == 0 && b == 0 then nrm a b == (0, 0) else
      fac a b != 0 && (a == fac a b * (nrm a b).1 && (b == fac a b * (nrm a b).2 && (Int.gcd (nrm a b).1 (nrm a b).2 == 1 && (decide (0 < (nrm a b).2) || ((nrm a b).2 == 0 && decide (0 < (nrm a b).1))))))))))
theorem all_chk : ((List.range 33).all fun i => (List.range 33).all fun j => chk ((i : Int) - 16) ((j : Int) - 16)) = true := by decide +kernel
theorem chk_of {a b : Int} (h : inR a b = true) : chk a b = true := by
  obtain ⟨h1, h2, h3, h4⟩ := inR_iff.1 h
  have h0 := List.all_eq_true.1 all_chk (a + 16).toNat (by simp; omega)
  have h5 := List.all_eq_true.1 h0 (b + 16).toNat (by simp; omega)
  rw [show (((a + 16).toNat : Nat) : Int) - 16 = a by omega, show (((b + 16).toNat : Nat) : Int) - 16 = b by omega] at h5
  exact h5

theorem norm60 {a b : Int} (h : inR a b = true) : point_norm.f 60 a b = some (nrm a b) := by
  have := chk_of h
  simp only [chk, Bool.and_eq_true, beq_iff_eq] at this
  exact this.1
theorem norm_at {a b : Int} (h : inR a b = true) {k : Nat} (hk : 60 ≤ k) : point_norm.f k a b = some (nrm a b) := at_rounds (fun k => point_norm.mono a b k) hk (norm60 h)
theorem refNorm_at {a b : Int} (h : inR a b = true) {k : Nat} (hk : 60 ≤ k) : swageref06_Norm.f k a b = some (nrm a b) := by
  have := chk_of h
  simp only [chk, Bool.and_eq_true, beq_iff_eq] at this
  exact at_rounds (fun k => swageref06_Norm.mono a b k) hk this.2.1
theorem nrm_in {a b : Int} (h : inR a b = true) : inR (nrm a b).1 (nrm a b).2 = true := by
  have := chk_of h
  simp only [chk, Bool.and_eq_true, beq_iff_eq] at this
  exact this.2.2.1
theorem nrm_nrm {a b : Int} (h : inR a b = true) : nrm (nrm a b).1 (nrm a b).2 = nrm a b := by
  have := chk_of h
  simp only [chk, Bool.and_eq_true, beq_iff_eq] at this
  exact Option.some.inj ((norm60 (nrm_in h)).symm.trans this.2.2.2.1)
theorem nrm_zero : nrm 0 0 = (0, 0) := by decide +kernel
theorem nrm_parts {a b : Int} (h : inR a b = true) (h0 : ¬ (a = 0 ∧ b = 0)) : fac a b ≠ 0 ∧ a = fac a b * (nrm a b).1 ∧ b = fac a b * (nrm a b).2 ∧ Int.gcd (nrm a b).1 (nrm a b).2 = 1 ∧ (0 < (nrm a b).2 ∨ (nrm a b).2 = 0 ∧ 0 < (nrm a b).1) := by
  have := chk_of h
  simp only [chk, Bool.and_eq_true, beq_iff_eq] at this
  have h1 := this.2.2.2.2
  rw [if_neg h0] at h1
  simpa using h1

theorem coprime_cross {x y u v : Int} (h1 : Int.gcd x y = 1) (h2 : Int.gcd u v = 1) (s1 : 0 < y ∨ y = 0 ∧ 0 < x) (s2 : 0 < v ∨ v = 0 ∧ 0 < u) (h : x * v = u * y) : x = u ∧ y = v := by
  have d1 : y.natAbs ∣ v.natAbs := by
    have c : Nat.Coprime y.natAbs x.natAbs := by rw [Nat.coprime_comm]; exact h1
    refine c.dvd_of_dvd_mul_left ⟨u.natAbs, ?_⟩
    rw [← Int.natAbs_mul, h, Int.natAbs_mul, Nat.mul_comm]
  have d2 : v.natAbs ∣ y.natAbs := by
    have c : Nat.Coprime v.natAbs u.natAbs := by rw [Nat.coprime_comm]; exact h2
    refine c.dvd_of_dvd_mul_left ⟨x.natAbs, ?_⟩
    rw [← Int.natAbs_mul, ← h, Int.natAbs_mul, Nat.mul_comm]
  have e := Nat.dvd_antisymm d1 d2
  have ev : y = v := by omega
  subst ev
  refine ⟨?_, rfl⟩
  rcases s1 with s1 | ⟨rfl, s1⟩
  · exact Int.eq_of_mul_eq_mul_right (by omega) h
  · have g1 : x.natAbs = 1 := by simpa [Int.gcd] using h1
    have g2 : u.natAbs = 1 := by simpa [Int.gcd] using h2
    omega

def det (a b c d : Int) : Int := a * d - c * b
theorem wrap_in {x : Int} (h : -9223372036854775808 ≤ x ∧ x ≤ 9223372036854775807) : wrap64 x = x := by unfold wrap64; omega
theorem mul_in {a b c d : Int} (h : inR a b = true) (h' : inR c d = true) : -256 ≤ a * d ∧ a * d ≤ 256 := by
  obtain ⟨h1, h2, h3, h4⟩ := inR_iff.1 h
  obtain ⟨g1, g2, g3, g4⟩ := inR_iff.1 h'
  have hn : (a * d).natAbs ≤ 16 * 16 := by rw [Int.natAbs_mul]; exact Nat.mul_le_mul (by omega) (by omega)
  omega
theorem det_in {a b c d : Int} (h : inR a b = true) (h' : inR c d = true) : -512 ≤ det a b c d ∧ det a b c d ≤ 512 := by
  have := mul_in h h'
  have := mul_in h' h
  unfold det; omega
theorem det_wrap {a b c d : Int} (h : inR a b = true) (h' : inR c d = true) : wrap64 (wrap64 (a * d) - wrap64 (c * b)) = det a b c d := by
  have h1 := mul_in h h'
  have h2 := mul_in h' h
  rw [wrap_in (x := a * d) (by omega), wrap_in (x := c * b) (by omega), wrap_in (by omega)]; rfl
theorem det_at {a b c d : Int} (h : inR a b = true) (h' : inR c d = true) : point_Det.f a b c d = some (det a b c d, 0) := by
  unfold point_Det.f
  rw [in_at, in_at, h, h']
  simp [det_wrap h h']
theorem refDet_at {a b c d : Int} (h : inR a b = true) (h' : inR c d = true) : swageref06_Det.f a b c d = some (det a b c d) := by
  unfold swageref06_Det.f
  rw [det_wrap h h']

/-- Are two points one? -/
def one (a b c d : Int) : Bool := (nrm a b).1 == (nrm c d).1 && (nrm a b).2 == (nrm c d).2
theorem one_at {a b c d : Int} (h : inR a b = true) (h' : inR c d = true) {k : Nat} (hk : 61 ≤ k) : point_One.f k a b c d = some (one a b c d, 0) := by
  obtain ⟨k, rfl⟩ : ∃ m, k = m + 1 := ⟨k - 1, by omega⟩
  unfold point_One.f
  rw [in_at, in_at, h, h']
  simp only [Option.bind_some, if_true, Bool.not_true, point_One.j0]
  rw [norm_at h (by omega), norm_at h' (by omega)]
  simp [one]
theorem one_out {a b c d : Int} (h : ¬ (inR a b = true ∧ inR c d = true)) {k : Nat} (hk : 61 ≤ k) : point_One.f k a b c d = some (false, 2) := by
  obtain ⟨k, rfl⟩ : ∃ m, k = m + 1 := ⟨k - 1, by omega⟩
  unfold point_One.f
  rw [in_at, in_at]
  by_cases h1 : inR a b = true <;> by_cases h2 : inR c d = true <;> simp_all [point_One.j0]
theorem det_out {a b c d : Int} (h : ¬ (inR a b = true ∧ inR c d = true)) : point_Det.f a b c d = some (0, 2) := by
  unfold point_Det.f
  rw [in_at, in_at]
  by_cases h1 : inR a b = true <;> by_cases h2 : inR c d = true <;> simp_all

theorem one_iff {a b c d : Int} (h : inR a b = true) (h' : inR c d = true) : one a b c d = if (a = 0 ∧ b = 0) ∨ (c = 0 ∧ d = 0) then decide ((a = 0 ∧ b = 0) ∧ c = 0 ∧ d = 0) else decide (det a b c d = 0) := by
  by_cases hp : a = 0 ∧ b = 0
  · obtain ⟨rfl, rfl⟩ := hp
    rw [if_pos (.inl ⟨rfl, rfl⟩)]
    unfold one
    rw [nrm_zero]
    by_cases hq : c = 0 ∧ d = 0
    · obtain ⟨rfl, rfl⟩ := hq
      rw [nrm_zero]; rfl
    · obtain ⟨hf, e1, e2, _, hs⟩ := nrm_parts h' hq
      have : decide (((0 : Int) = 0 ∧ (0 : Int) = 0) ∧ c = 0 ∧ d = 0) = false := by simpa using hq
      rw [this]
      simp
      omega
  · by_cases hq : c = 0 ∧ d = 0
    · obtain ⟨rfl, rfl⟩ := hq
      rw [if_pos (.inr ⟨rfl, rfl⟩)]
      unfold one
      rw [nrm_zero]
      obtain ⟨hf, e1, e2, _, hs⟩ := nrm_parts h hp
      have : decide ((a = 0 ∧ b = 0) ∧ (0 : Int) = 0 ∧ (0 : Int) = 0) = false := by simpa using hp
      rw [this]
      simp
      omega
    · rw [if_neg (by intro hh; rcases hh with hh | hh <;> contradiction)]
      obtain ⟨hf, e1, e2, hg, hs⟩ := nrm_parts h hp
      obtain ⟨hf', e1', e2', hg', hs'⟩ := nrm_parts h' hq
      have key : det a b c d = fac a b * fac c d * ((nrm a b).1 * (nrm c d).2 - (nrm c d).1 * (nrm a b).2) := by
        unfold det
        generalize fac a b = s at *
        generalize fac c d = t at *
        generalize nrm a b = p at *
        generalize nrm c d = q at *
        subst e1 e2 e1' e2'
        rw [Int.mul_sub]
        congr 1 <;> simp [Int.mul_assoc, Int.mul_comm, Int.mul_left_comm]
      rw [Bool.eq_iff_iff]
      simp only [one, Bool.and_eq_true, beq_iff_eq, decide_eq_true_eq]
      constructor
      · rintro ⟨h1, h2⟩
        rw [key, h1, h2, Int.sub_self, Int.mul_zero]
      · intro hd
        rw [key] at hd
        have hc : (nrm a b).1 * (nrm c d).2 - (nrm c d).1 * (nrm a b).2 = 0 := by
          rcases Int.mul_eq_zero.1 hd with h0 | h0
          · rcases Int.mul_eq_zero.1 h0 with h0 | h0 <;> contradiction
          · exact h0
        exact coprime_cross hg hg' hs hs' (by omega)

theorem refNone_at (a b : Int) : swageref06_None.f a b = some (decide (a = 0 ∧ b = 0)) := by
  unfold swageref06_None.f
  by_cases h1 : a = 0 <;> by_cases h2 : b = 0 <;> simp [h1, h2]
theorem none_at (a b : Int) : point_None.f a b = some (decide (a = 0 ∧ b = 0)) := by
  unfold point_None.f
  by_cases h1 : a = 0 <;> by_cases h2 : b = 0 <;> simp [h1, h2]
theorem refOne_at {a b c d : Int} (h : inR a b = true) (h' : inR c d = true) {k : Nat} (hk : 1 ≤ k) : swageref06_One.f k a b c d = some (one a b c d) := by
  obtain ⟨k, rfl⟩ : ∃ m, k = m + 1 := ⟨k - 1, by omega⟩
  unfold swageref06_One.f
  rw [refNone_at, refNone_at, one_iff h h']
  by_cases hp : a = 0 ∧ b = 0
  · simp [hp, swageref06_One.j0, refNone_at]
  · by_cases hq : c = 0 ∧ d = 0
    · simp [hp, hq, swageref06_One.j0, refNone_at]
    · simp only [hp, hq, swageref06_One.j0, refDet_at h h', Option.bind_some]
      simp [Bool.beq_eq_decide_eq]
theorem Norm_at {a b : Int} (h : inR a b = true) {k : Nat} (hk : 60 ≤ k) : point_Norm.f k a b = some ((nrm a b).1, (nrm a b).2, 0) := by
  unfold point_Norm.f
  rw [in_at, h]
  simp [norm_at h hk]
theorem Norm_out {a b : Int} (h : inR a b = false) (k : Nat) : point_Norm.f k a b = some (0, 0, 2) := by
  unfold point_Norm.f
  rw [in_at, h]
  simp
theorem nrm46 : nrm 4 (-6) = (-2, 3) := by decide +kernel
theorem live_at {k : Nat} (hk : 60 ≤ k) : swagelaw06_live.f k = some true := by
  unfold swagelaw06_live.f
  rw [Norm_at (by decide) hk, nrm46]
  rfl
end Go.Proofs.Ytfkjmmpolingbaa.PlainPoint
