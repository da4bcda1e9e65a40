/- The law PointBezout, over numbers: the points in range one by one, all others by their refusal. -/
import Derived.Test.YtfkjmmpolingbaaSaidPointBezout
import Derived.Test.YtfkjmmpolingbaaPlainPoint
import Derived.Test.YtfkjmmpolingbaaEvs
namespace Go.Proofs.Ytfkjmmpolingbaa.Pure
open Go.RowKit Go.Proofs.YtfkjmmpolingbaaW.PrintWords Go.Proofs.YtfkjmmpolingbaaW.PrintLast Go.Proofs.Ytfkjmmpolingbaa.XA Go.Proofs.Ytfkjmmpolingbaa.SaidPointBezout Go.Proofs.Ytfkjmmpolingbaa.PlainPoint Go.Proofs.Ytfkjmmpolingbaa.Evs
set_option linter.unusedVariables false
set_option linter.unusedSimpArgs false
theorem common_ends (n : Nat) : ∀ x y : Int, y.natAbs ≤ n → ∃ r, Ev (fun k => point_common.l0 k x y) r := by
  have stop : ∀ x y : Int, y = 0 → ∃ r, Ev (fun k => point_common.l0 k x y) r := by
    intro x y h
    refine ⟨if x < 0 then wrap64 (-x) else x, Ev.step (f := fun _ => some (if x < 0 then wrap64 (-x) else x)) (fun k => ?_) (Ev.now _)⟩
    simp only [point_common.l0]
    rw [if_pos h]
    unfold point_amount.f
    by_cases hx : x < 0
    · rw [if_pos hx, if_pos hx]; rfl
    · rw [if_neg hx, if_neg hx]; rfl
  induction n with
  | zero => intro x y h; exact stop x y (by omega)
  | succ n ih =>
    intro x y h
    by_cases h0 : y = 0
    · exact stop x y h0
    · have hlt : (Int.tmod x y).natAbs < y.natAbs := by
        rw [Int.natAbs_tmod]
        exact Nat.mod_lt _ (by omega)
      obtain ⟨r, hr⟩ := ih y (Int.tmod x y) (by omega)
      refine ⟨r, Ev.step (f := fun k => point_common.l0 k y (Int.tmod x y)) (fun k => ?_) hr⟩
      simp only [point_common.l0]
      rw [if_neg h0]
theorem all_bezout : ((List.range 33).all fun i => (List.range 33).all fun j => swagelaw06_PointBezout.f 80 ((i : Int) - 16) ((j : Int) - 16) == some true) = true := by decide +kernel
theorem PointBezout : SaidPointBezout.Pure := by
  intro p hp
  obtain ⟨a, b⟩ := p
  show ∃ k, swagelaw06_PointBezout.f k a b = some true
  by_cases h : inR a b = true
  · obtain ⟨h1, h2, h3, h4⟩ := inR_iff.1 h
    refine ⟨80, ?_⟩
    have h0 := List.all_eq_true.1 all_bezout (a + 16).toNat (by simp; omega)
    have h5 := List.all_eq_true.1 h0 (b + 16).toNat (by simp; omega)
    rw [show (((a + 16).toNat : Nat) : Int) - 16 = a by omega, show (((b + 16).toNat : Nat) : Int) - 16 = b by omega] at h5
    exact eq_of_beq h5
  · apply Ev.rounds
    have live : Ev (fun k => swagelaw06_live.f k) true := ⟨60, fun k hk => live_at (by omega)⟩
    obtain ⟨g, hg⟩ := common_ends b.natAbs a b (Nat.le_refl _)
    have hB : Ev (fun k => point_Bezout.f k a b) (0, 0, 0, 2) := by
      unfold point_Bezout.f
      refine Ev.bind (g := fun k => point_common.f k a b) hg ?_
      simp only [in_at, Bool.eq_false_iff.2 h, Option.bind_some, Bool.false_eq_true, if_false]
      exact Ev.now _
    unfold swagelaw06_PointBezout.f
    refine Ev.bind live (ev_pos rfl (Ev.bind hB ?_))
    simp only [refIn_at, Bool.eq_false_iff.2 h, Option.bind_some, Bool.false_eq_true, if_false, if_true]
    exact Ev.bind live (Ev.now _)
end Go.Proofs.Ytfkjmmpolingbaa.Pure
