/- The law PointNorms, over numbers: whatever two points are handed in, the printed law answers true. No condition. -/
import Derived.Test.YtfkjmmpolingbaaPlainPoint
namespace Go.Proofs.Ytfkjmmpolingbaa.Pure
open Go.RowKit Go.Proofs.YtfkjmmpolingbaaW.PrintWords Go.Proofs.YtfkjmmpolingbaaW.PrintLast Go.Proofs.Ytfkjmmpolingbaa.XA Go.Proofs.Ytfkjmmpolingbaa.SaidPointNorms Go.Proofs.Ytfkjmmpolingbaa.PlainPoint
set_option linter.unusedVariables false
set_option linter.unusedSimpArgs false

theorem norms_j2_out {a b c d : Int} (h : inR a b = true) (h' : inR c d = false) (u v : Int) {k : Nat} (hk : 70 ≤ k) : swagelaw06_PointNorms.j2 k false false 2 0 2 false a b c d u v = some true := by
  obtain ⟨k, rfl⟩ : ∃ m, k = m + 1 := ⟨k - 1, by omega⟩
  simp [swagelaw06_PointNorms.j2]
theorem norms_j2_in {a b c d : Int} (h : inR a b = true) (h' : inR c d = true) {k : Nat} (hk : 70 ≤ k) : swagelaw06_PointNorms.j2 k true (one a b c d) 0 (det a b c d) 0 false a b c d (nrm a b).1 (nrm a b).2 = some true := by
  obtain ⟨k, rfl⟩ : ∃ m, k = m + 1 := ⟨k - 1, by omega⟩
  have hd := det_in h h'
  have e : ((nrm c d).1 == (nrm a b).1 && ((nrm c d).2 == (nrm a b).2)) = one a b c d := by
    rw [one, Bool.eq_iff_iff]
    simp only [Bool.and_eq_true, beq_iff_eq]
    exact ⟨fun ⟨h1, h2⟩ => ⟨h1.symm, h2.symm⟩, fun ⟨h1, h2⟩ => ⟨h1.symm, h2.symm⟩⟩
  have e2 : det c d a b = wrap64 (-det a b c d) := by rw [wrap_in (by omega)]; unfold det; omega
  simp only [swagelaw06_PointNorms.j2]
  rw [det_at h' h, Norm_at h' (by omega), refOne_at h h' (by omega), refDet_at h h']
  simp only [Option.bind_some, e, e2]
  simp [hd.2]
theorem norms_j1 {a b c d : Int} (h : inR a b = true) {x9 : Bool} {x6 : Bool} {x10 x11 x12 : Int} {k : Nat} (hk : 71 ≤ k)
    (H : ∀ k, 70 ≤ k → swagelaw06_PointNorms.j2 k x6 x9 x10 x11 x12 false a b c d (nrm a b).1 (nrm a b).2 = some true) : swagelaw06_PointNorms.j1 k x6 x9 x10 x11 x12 false a b c d (nrm a b).1 (nrm a b).2 = some true := by
  obtain ⟨k, rfl⟩ : ∃ m, k = m + 1 := ⟨k - 1, by omega⟩
  simp only [swagelaw06_PointNorms.j1]
  rw [Norm_at (nrm_in h) (by omega), nrm_nrm h]
  simp only [Option.bind_some, beq_self_eq_true, Bool.not_true, Bool.or_self, Bool.false_eq_true, if_false, bne_self_eq_false]
  exact H k (by omega)
theorem norms_j0 (a b c d : Int) : swagelaw06_PointNorms.j0 90 (inR a b) (inR c d) false a b c d = some true := by
  simp only [swagelaw06_PointNorms.j0]
  by_cases h : inR a b = true
  · rw [Norm_at h (by omega), refNorm_at h (by omega), h]
    by_cases h' : inR c d = true
    · rw [one_at h h' (by omega), det_at h h', h']
      simp only [Option.bind_some, beq_self_eq_true, Bool.not_true, Bool.or_self, Bool.false_eq_true, if_false, if_true, bne_self_eq_false]
      exact norms_j1 h (by omega) (fun k hk => norms_j2_in h h' hk)
    · have h2 : inR c d = false := by simpa using h'
      rw [one_out (fun hh => h' hh.2) (by omega), det_out (fun hh => h' hh.2), h2]
      simp only [Option.bind_some, beq_self_eq_true, Bool.not_true, Bool.or_self, Bool.false_eq_true, if_false, if_true, bne_self_eq_false]
      exact norms_j1 h (by omega) (fun k hk => norms_j2_out h h2 _ _ hk)
  · have h2 : inR a b = false := by simpa using h
    rw [Norm_out h2, one_out (fun hh => h hh.1) (by omega), det_out (fun hh => h hh.1), h2]
    simp
theorem PointNorms : SaidPointNorms.Pure := by
  intro p q _ _
  refine ⟨90, ?_⟩
  unfold swagelaw06_PointNorms.f
  rw [live_at (by omega), refIn_at, refIn_at, in_at, none_at, refNone_at]
  simp only [Option.bind_some, if_true, bne_self_eq_false, Bool.false_eq_true, if_false, Bool.not_true]
  exact norms_j0 _ _ _ _
end Go.Proofs.Ytfkjmmpolingbaa.Pure
