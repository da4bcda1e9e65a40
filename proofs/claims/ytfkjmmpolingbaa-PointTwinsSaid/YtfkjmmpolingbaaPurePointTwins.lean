/- The law PointTwins, over numbers and lists: whatever list of points is handed in, the printed law answers true. No condition. -/
import Derived.Test.YtfkjmmpolingbaaPlainPoint
import Derived.Test.YtfkjmmpolingbaaEvs
namespace Go.Proofs.Ytfkjmmpolingbaa.Pure
open Go.RowKit Go.Proofs.YtfkjmmpolingbaaW.PrintWords Go.Proofs.YtfkjmmpolingbaaW.PrintLast Go.Proofs.Ytfkjmmpolingbaa.XA Go.Proofs.Ytfkjmmpolingbaa.SaidPointTwins Go.Proofs.Ytfkjmmpolingbaa.PlainPoint Go.Proofs.Ytfkjmmpolingbaa.Evs
set_option linter.unusedVariables false
set_option linter.unusedSimpArgs false

/-- Are two elements of the list one? -/
def pr (p q : S23) : Bool := inR p.f0 p.f1 && inR q.f0 q.f1 && one p.f0 p.f1 q.f0 q.f1
theorem ev_one (p q : S23) : ∃ e : Int, Ev (fun k => point_One.f k p.f0 p.f1 q.f0 q.f1) (pr p q, e) := by
  by_cases h : inR p.f0 p.f1 = true ∧ inR q.f0 q.f1 = true
  · refine ⟨0, 61, fun k hk => ?_⟩
    show point_One.f k _ _ _ _ = _
    rw [one_at h.1 h.2 hk, pr, h.1, h.2]; rfl
  · refine ⟨2, 61, fun k hk => ?_⟩
    show point_One.f k _ _ _ _ = _
    rw [one_out h hk]
    have : pr p q = false := by
      rw [Bool.eq_false_iff]
      intro hh
      simp only [pr, Bool.and_eq_true] at hh
      exact h hh.1
    rw [this]
theorem ev_refOne {a b c d : Int} (h : inR a b = true) (h' : inR c d = true) : Ev (fun k => swageref06_One.f k a b c d) (one a b c d) := ⟨1, fun k hk => refOne_at h h' hk⟩

theorem inner_twins (l : List S23) (hl : l.length ≤ 300) (j : Nat) (hj : j < l.length)
    (ih : ∃ r, Ev (fun k => point_Twins.l0 k l l (l.length : Int) ((j : Int) + 1)) r ∧ Ev (fun k => swageref06_Twins.l0 k l ((j : Int) + 1)) r) (d : Nat) :
    ∀ i : Nat, i ≤ j → j - i = d → ∃ r, Ev (fun k => point_Twins.l1 k l (j : Int) l (l.length : Int) (j : Int) (l.take j) (j : Int) (i : Int) (rd_T23 l (j : Int)).f0 (rd_T23 l (j : Int)).f1) r ∧ Ev (fun k => swageref06_Twins.l1 k l (j : Int) (i : Int)) r := by
  induction d with
  | zero =>
    intro i hij hd
    obtain rfl : i = j := by omega
    obtain ⟨r, h1, h2⟩ := ih
    refine ⟨r, Ev.step (f := fun k => point_Twins.l0 k l l (l.length : Int) ((i : Int) + 1)) (fun k => ?_) h1, Ev.step (f := fun k => swageref06_Twins.l0 k l ((i : Int) + 1)) (fun k => ?_) h2⟩
    · simp only [point_Twins.l1]
      rw [if_neg (by omega), wrap_in (by omega)]
    · simp only [swageref06_Twins.l1]
      rw [if_neg (by omega), wrap_in (by omega)]
  | succ d ihd =>
    intro i hij hd
    have hlt : i < j := by omega
    obtain ⟨r, h1, h2⟩ := ihd (i + 1) (by omega) (by omega)
    have htl : (l.take j).length = j := by rw [List.length_take]; omega
    have hrd : rd_T23 (l.take j) (i : Int) = rd_T23 l (i : Int) := by
      simp only [rd_T23, Int.toNat_natCast, List.getD_eq_getElem?_getD, List.getElem?_take, if_pos hlt]
    obtain ⟨e0, hp⟩ := ev_one (rd_T23 l (i : Int)) (rd_T23 l (j : Int))
    have e1 : ((i + 1 : Nat) : Int) = (i : Int) + 1 := by omega
    rw [e1] at h1 h2
    have g1 : ∀ k, point_Twins.l1 (k + 1) l (j : Int) l (l.length : Int) (j : Int) (l.take j) (j : Int) (i : Int) (rd_T23 l (j : Int)).f0 (rd_T23 l (j : Int)).f1 =
        (point_One.f k (rd_T23 l (i : Int)).f0 (rd_T23 l (i : Int)).f1 (rd_T23 l (j : Int)).f0 (rd_T23 l (j : Int)).f1).bind fun bt => if bt.1 = true then some ((i : Int), (j : Int), true)
          else point_Twins.l1 k l (j : Int) l (l.length : Int) (j : Int) (l.take j) (j : Int) ((i : Int) + 1) (rd_T23 l (j : Int)).f0 (rd_T23 l (j : Int)).f1 := by
      intro k
      simp only [point_Twins.l1]
      rw [if_pos (by omega), if_pos (by omega), if_pos (by rw [htl]; omega), hrd, wrap_in (by omega)]
    by_cases hpr : pr (rd_T23 l (i : Int)) (rd_T23 l (j : Int)) = true
    · have h3 := hpr
      simp only [pr, Bool.and_eq_true] at h3
      obtain ⟨⟨hi, hj'⟩, ho⟩ := h3
      refine ⟨((i : Int), (j : Int), true), Ev.step g1 (Ev.bind hp ?_), Ev.step (f := fun k => (swageref06_One.f k (rd_T23 l (i : Int)).f0 (rd_T23 l (i : Int)).f1 (rd_T23 l (j : Int)).f0 (rd_T23 l (j : Int)).f1).bind fun t => if t = true then some ((i : Int), (j : Int), true) else swageref06_Twins.l1 k l (j : Int) ((i : Int) + 1)) (fun k => ?_) (Ev.bind (ev_refOne hi hj') ?_)⟩
      · exact ev_pos hpr (Ev.now _)
      · simp only [swageref06_Twins.l1]
        rw [if_pos (by omega), if_pos (by omega), if_pos (by omega), refIn_at, hi]
        simp only [Option.bind_some, if_true]
        rw [if_pos (by omega), if_pos (by omega), refIn_at, hj']
        simp only [Option.bind_some, if_true]
        rw [wrap_in (by omega)]
      · exact ev_pos ho (Ev.now _)
    · refine ⟨r, Ev.step g1 (Ev.bind hp ?_), ?_⟩
      · exact ev_neg hpr h1
      · by_cases hi : inR (rd_T23 l (i : Int)).f0 (rd_T23 l (i : Int)).f1 = true
        · by_cases hj' : inR (rd_T23 l (j : Int)).f0 (rd_T23 l (j : Int)).f1 = true
          · refine Ev.step (f := fun k => (swageref06_One.f k (rd_T23 l (i : Int)).f0 (rd_T23 l (i : Int)).f1 (rd_T23 l (j : Int)).f0 (rd_T23 l (j : Int)).f1).bind fun t => if t = true then some ((i : Int), (j : Int), true) else swageref06_Twins.l1 k l (j : Int) ((i : Int) + 1)) (fun k => ?_) (Ev.bind (ev_refOne hi hj') ?_)
            · simp only [swageref06_Twins.l1]
              rw [if_pos (by omega), if_pos (by omega), if_pos (by omega), refIn_at, hi]
              simp only [Option.bind_some, if_true]
              rw [if_pos (by omega), if_pos (by omega), refIn_at, hj']
              simp only [Option.bind_some, if_true]
              rw [wrap_in (by omega)]
            · exact ev_neg (by intro ho; exact hpr (by simp [pr, hi, hj', ho])) h2
          · refine Ev.step (f := fun k => swageref06_Twins.l1 k l (j : Int) ((i : Int) + 1)) (fun k => ?_) h2
            simp only [swageref06_Twins.l1]
            rw [if_pos (by omega), if_pos (by omega), if_pos (by omega), refIn_at, hi]
            simp only [Option.bind_some, if_true]
            rw [if_pos (by omega), if_pos (by omega), refIn_at, Bool.eq_false_iff.2 hj']
            simp only [Option.bind_some, Bool.false_eq_true, if_false]
            rw [wrap_in (by omega)]
        · refine Ev.step (f := fun k => swageref06_Twins.l1 k l (j : Int) ((i : Int) + 1)) (fun k => ?_) h2
          simp only [swageref06_Twins.l1]
          rw [if_pos (by omega), if_pos (by omega), if_pos (by omega), refIn_at, Bool.eq_false_iff.2 hi]
          simp only [Option.bind_some, Bool.false_eq_true, if_false]
          rw [wrap_in (by omega)]
theorem outer_twins (l : List S23) (hl : l.length ≤ 300) (d : Nat) :
    ∀ j : Nat, j ≤ l.length → l.length - j = d → ∃ r, Ev (fun k => point_Twins.l0 k l l (l.length : Int) (j : Int)) r ∧ Ev (fun k => swageref06_Twins.l0 k l (j : Int)) r := by
  induction d with
  | zero =>
    intro j hj hd
    refine ⟨(0, 0, false), Ev.step (f := fun _ => some (0, 0, false)) (fun k => ?_) (Ev.now _), Ev.step (f := fun _ => some (0, 0, false)) (fun k => ?_) (Ev.now _)⟩
    · simp only [point_Twins.l0]; rw [if_neg (by omega)]
    · simp only [swageref06_Twins.l0]; rw [if_neg (by omega)]
  | succ d ihd =>
    intro j hj hd
    have hlt : j < l.length := by omega
    have ih := ihd (j + 1) (by omega) (by omega)
    rw [show ((j + 1 : Nat) : Int) = (j : Int) + 1 by omega] at ih
    obtain ⟨r, h1, h2⟩ := inner_twins l hl j hlt ih j 0 (by omega) (by omega)
    refine ⟨r, Ev.step (f := fun k => point_Twins.l1 k l (j : Int) l (l.length : Int) (j : Int) (l.take j) (j : Int) ((0 : Nat) : Int) (rd_T23 l (j : Int)).f0 (rd_T23 l (j : Int)).f1) (fun k => ?_) h1, Ev.step (f := fun k => swageref06_Twins.l1 k l (j : Int) ((0 : Nat) : Int)) (fun k => ?_) h2⟩
    · simp only [point_Twins.l0]
      rw [if_pos (by omega), if_pos (by omega), if_pos (by omega), if_pos (by omega)]
      simp only [Option.bind_some, Int.toNat_natCast]
      rw [show (l.take j).length = j by rw [List.length_take]; omega]
      rfl
    · simp only [swageref06_Twins.l0]
      rw [if_pos (by omega)]
      rfl
theorem PointTwins : SaidPointTwins.Pure := by
  intro l _
  by_cases hl : l.length ≤ 300
  · obtain ⟨r, h1, h2⟩ := outer_twins l hl l.length 0 (by omega) (by omega)
    obtain ⟨K1, h1⟩ := h1
    obtain ⟨K2, h2⟩ := h2
    refine ⟨K1 + K2 + 60, ?_⟩
    unfold swagelaw06_PointTwins.f
    rw [live_at (by omega)]
    simp only [Option.bind_some, if_true]
    rw [if_neg (by omega)]
    have e1 : point_Twins.f (K1 + K2 + 60) l = some r := h1 _ (by omega)
    have e2 : swageref06_Twins.f (K1 + K2 + 60) l = some r := h2 _ (by omega)
    rw [e1, e2]
    simp
  · refine ⟨60, ?_⟩
    unfold swagelaw06_PointTwins.f
    rw [live_at (by omega)]
    simp only [Option.bind_some, if_true]
    rw [if_pos (by omega)]
end Go.Proofs.Ytfkjmmpolingbaa.Pure
