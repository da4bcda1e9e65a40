/- Part 8 of the proof of the law PointAll for every input: words, walks and plain laws. No condition. -/
import Derived.Test.YtfkjmmpolingbaaKPointAll7
section
namespace Go.Proofs.Ytfkjmmpolingbaa.XA
open Go.RowKit Go.Proofs.YtfkjmmpolingbaaW.PrintWords Go.Proofs.YtfkjmmpolingbaaW.PrintLast Go.Proofs.YtfkjmmpolingbaaW.PrintMore
attribute [local go_sem] max2_int min2_int max_two min_two max_three min_three max_four min_four   -- for this text's walks alone
set_option linter.unusedVariables false
set_option linter.unusedSimpArgs false

attribute [local go_sem high] eqA23
/-! ### swageref06_All: function 23 -/
mutual
def swageref06_All.j0 : Nat → Int → Bool → Option ((List (S23)))
  | 0, _, _ => none
  | k + 1, x0, x12 => if x12 = true then (some ([] : List (S23))) else (swageref06_All.l0 k x0 (([(⟨0, 1⟩ : S23), (⟨1, 0⟩ : S23)] : List (S23))) 1)
def swageref06_All.l0 : Nat → Int → List (S23) → Int → Option ((List (S23)))
  | 0, _, _, _ => none
  | k + 1, x0, x3, x4 => if x4 ≤ x0 then (swageref06_All.l1 k x0 x3 x4 0) else (some x3)
def swageref06_All.l1 : Nat → Int → List (S23) → Int → Int → Option ((List (S23)))
  | 0, _, _, _, _ => none
  | k + 1, x0, x3, x4, x5 => if x5 ≤ x4 then (swageref06_All.l2 k x0 x3 x4 x5 1) else (swageref06_All.l0 k x0 x3 (wrap64 (x4 + 1)))
def swageref06_All.l2 : Nat → Int → List (S23) → Int → Int → Int → Option ((List (S23)))
  | 0, _, _, _, _, _ => none
  | k + 1, x0, x3, x4, x5, x6 => if x6 ≤ x4 then (if x6 = x4 then ((swageref06_Norm.f k x6 x5).bind fun bt222 => (if (!(bt222.1 == x6) || (!(bt222.2 == x5))) = true then (swageref06_All.l2 k x0 x3 x4 x5 (wrap64 (x6 + 1))) else (if x5 = 0 then (swageref06_All.l2 k x0 x3 x4 x5 (wrap64 (x6 + 1))) else ((some (([(⟨x6, x5⟩ : S23), (⟨wrap64 (-x6), x5⟩ : S23)] : List (S23)) : List (S23))).bind fun y224 => (if x3.length + y224.length < 8796093022208 then (swageref06_All.l2 k x0 (x3 ++ y224) x4 x5 (wrap64 (x6 + 1))) else (none)))))) else (if x5 = x4 then ((swageref06_Norm.f k x6 x5).bind fun bt230 => (if (!(bt230.1 == x6) || (!(bt230.2 == x5))) = true then (swageref06_All.l2 k x0 x3 x4 x5 (wrap64 (x6 + 1))) else (if x5 = 0 then (swageref06_All.l2 k x0 x3 x4 x5 (wrap64 (x6 + 1))) else ((some (([(⟨x6, x5⟩ : S23), (⟨wrap64 (-x6), x5⟩ : S23)] : List (S23)) : List (S23))).bind fun y232 => (if x3.length + y232.length < 8796093022208 then (swageref06_All.l2 k x0 (x3 ++ y232) x4 x5 (wrap64 (x6 + 1))) else (none)))))) else (swageref06_All.l2 k x0 x3 x4 x5 (wrap64 (x6 + 1))))) else (swageref06_All.l1 k x0 x3 x4 (wrap64 (x5 + 1)))
end
def swageref06_All.f (k : Nat) (a0 : Int) : Option ((List (S23))) := if a0 < 1 then (swageref06_All.j0 k a0 true) else (swageref06_All.j0 k a0 (decide (a0 > 16)))
set_option maxHeartbeats 8000000 in
set_option maxRecDepth 100000 in
theorem swageref06_All.calls (k : Nat) (a0 : Int) (r : List (S23)) (w : World) (h : swageref06_All.f k a0 = some r) :
    Calls Try.prog 23 #[.int .i64 a0] w fun e w' => ∃ v0_ : Value, e = .returned (v0_) ∧ Kd.R k23 23 w' w.heap.size (fun _ => True) v0_ r ∧ Below w.heap.size w w' := by
  have hu23 := Try.underlying23
  have HB := Aside0.mk (Below.refl w.heap.size w)
  have H : (if a0 < 1 then (swageref06_All.j0 k a0 true) else (swageref06_All.j0 k a0 (decide (a0 > 16)))) = some r := h
  clear h
  have HC2 := Aside0.mk H
  clear H
  go_enter Try.func23, Try.ntmps23
  go_upto_region 1 with (fail)
  go_cut [12] (fun v12 wc => ∃ (kq : Nat) (x12_1 : Bool), v12 = .bool x12_1 ∧ Aside0 (swageref06_All.j0 kq a0 x12_1 = some r) ∧ Aside0 (kq ≤ k) ∧ Aside0 (Below w.heap.size w wc))
  case first =>
    have H := HC2.out
    clear HC2
    by_cases c3 : a0 < 1
    · rw [if_pos c3] at H
      have c3b0 : decide (a0 < 1) = true := decide_eq_true c3
      clear c3
      (first | rw [c3b0] | (simp only [i64_w, i32_w]; rw [c3b0]) | skip)
      have H' := Aside0.mk H
      clear H
      go_wp2
      go_meet
      case rel => exact ⟨_, (true), (by first | rfl | (simp; done) | (simp [*]; done)), H', ⟨by first | omega | exact Nat.le_refl _⟩, ⟨by repeat (first | (with_reducible first | exact HB.out | apply below_alloc | apply pw_below_drewN | apply below_drew1) | exact HB.out)⟩⟩
    · rw [if_neg c3] at H
      have c3b0 : decide (a0 < 1) = false := decide_eq_false c3
      clear c3
      (first | rw [c3b0] | (simp only [i64_w, i32_w]; rw [c3b0]) | skip)
      have H' := Aside0.mk H
      clear H
      go_wp2
      go_meet
      case rel => exact ⟨_, (decide (a0 > 16)), (by first | rfl | (simp; done) | (simp [*]; done) | (simp; omega)), H', ⟨by first | omega | exact Nat.le_refl _⟩, ⟨by repeat (first | (with_reducible first | exact HB.out | apply below_alloc | apply pw_below_drewN | apply below_drew1) | exact HB.out)⟩⟩
  case rest =>
    clear HC2
    obtain ⟨kq, x12_1, rfl, HA, HJ1, HB⟩ := hcut
    cases kq with
    | zero => exact absurd HA.out (by simp [swageref06_All.j0])
    | succ kj1 =>
      have H := HA.out
      clear HA
      simp only [swageref06_All.j0] at H
      by_cases c4 : x12_1 = true
      · subst c4
        have H1 : (some ([] : List (S23))) = some r := by rw [if_pos rfl] at H; exact H
        clear H
        have H := H1
        clear H1
        obtain rfl := Option.some.inj H
        go_wp2
        go_ret
        exact ⟨_, by first | rfl | (simp [errW_none, errW_some] <;> rfl) | (simp [*, errW_none, errW_some] <;> rfl), by first | exact Kd.R_nil _ _ _ _ _ | exact Kd.N_nil _ _ _ _ _ | exact Kd.V_nil _ _ _ _ _ | exact Kd.Q_nil _ _ _ _ _ | exact Kd.S_nil _ _ _ _ _, by repeat (first | (with_reducible first | exact HB.out | apply below_alloc | apply pw_below_drewN | apply below_drew1) | exact HB.out)⟩
      · replace c4 := Bool.eq_false_iff.mpr c4
        subst c4
        have H1 : (swageref06_All.l0 kj1 a0 (([(⟨0, 1⟩ : S23), (⟨1, 0⟩ : S23)] : List (S23))) 1) = some r := by rw [if_neg (show ¬ (false = true) by decide)] at H; exact H
        clear H
        have H := H1
        clear H1
        obtain ⟨y219, hy219⟩ : ∃ y_ : List (S23), y_ = (([(⟨0, 1⟩ : S23), (⟨1, 0⟩ : S23)] : List (S23))) := ⟨_, rfl⟩
        replace H : (swageref06_All.l0 kj1 a0 y219 1) = some r := by first | (rw [hy219]; with_reducible exact H) | (have H2_ := (Option.bind_some _ _).symm.trans H; rw [hy219]; with_reducible exact H2_) | (have H2_ := (Option.bind_some _ _).symm.trans H; with_reducible exact H2_) | with_reducible exact H | (rw [hy219]; exact H) | exact H
        have Ny219 := Aside0.mk hy219
        clear hy219
        have H' := Aside0.mk H
        clear H
        go_wp2_with (first | ((with_reducible refine gate_dst (N := 15) rfl ?_); refine Kd.R_lit k23 _ 23 ?hg (N := 15) ?hd (xs := ([(⟨0, 1⟩ : S23), (⟨1, 0⟩ : S23)] : List (S23))) (inner := [.int .i64 0, .int .i64 1, .int .i64 1, .int .i64 0]) (ok := fun _ => True) (okp := fun _ => True) ?hr ?hp (fun _ hk => hk) trivial (Below.refl _ _) (Nat.le_refl _) (by simp) ?_; (case hd => rfl); (case hg => rfl); (case hr => first | (go_simp; done) | (go_simp; rfl)); (case hp => exact (Reps.c2 (show Kd.M k23 _ _ _ (⟨0, 1⟩ : S23) [.int .i64 0, .int .i64 1] from (k23_mkM _ _ _ (⟨0, 1⟩ : S23) )) (Reps.c2 (show Kd.M k23 _ _ _ (⟨1, 0⟩ : S23) [.int .i64 1, .int .i64 0] from (k23_mkM _ _ _ (⟨1, 0⟩ : S23) )) (Reps.none _ _)))); intro v220 w5 ho6 hb hg_ hnew_; clear hg_ hnew_; (first | rw [← Ny219.out] at ho6 | (simp only [Int.reduceToNat] at ho6; rw [← Ny219.out] at ho6)); have n0_ := Aside0.mk (Kd.R_lower ho6 (below_size (by repeat (first | (with_reducible first | exact HB.out | apply below_alloc | apply pw_below_drewN | apply below_drew1) | exact HB.out)))); have n1_ := Aside0.mk (below_step (by repeat (first | (with_reducible first | exact HB.out | apply below_alloc | apply pw_below_drewN | apply below_drew1) | exact HB.out)) hb); clear HB; have HO221 := n0_; have HB := n1_; clear n0_ n1_; clear hb ho6))
        go_loopg [3, 4] kj1 (fun kq v3 v4 w' => ∃ (x3_2 : List (S23)) (x4_2 : Int), v4 = .int .i64 x4_2 ∧ Aside0 (swageref06_All.l0 kq a0 x3_2 x4_2 = some r) ∧ Aside0 (kq ≤ kj1) ∧ Aside0 (Kd.R k23 23 w' w.heap.size (fun _ => True) v3 x3_2) ∧ Aside0 (Below w.heap.size w w'))
        case atStart => exact ⟨(y219), (1), (by first | rfl | (simp; done) | (simp [*]; done)), H', ⟨Nat.le_refl _⟩, ⟨by (with_reducible repeat (first | apply Kd.R_alloc | apply Kd.R_drewN | apply Kd.R_drew)); exact HO221.out⟩, ⟨by repeat (first | (with_reducible first | exact HB.out | apply below_alloc | apply pw_below_drewN | apply below_drew1) | exact HB.out)⟩⟩
        case round =>
          clear H'
          try clear c4
          obtain ⟨x3_2, x4_2, rfl, HA, HK2, HO_3, HB⟩ := hrel
          cases gk with
          | zero => exact absurd HA.out (by simp [swageref06_All.l0])
          | succ k2 =>
            have H := HA.out
            clear HA
            simp only [swageref06_All.l0] at H
            by_cases c7 : x4_2 ≤ a0
            · rw [if_pos c7] at H
              have c7b0 : decide (x4_2 ≤ a0) = true := decide_eq_true c7
              clear c7
              have H' := Aside0.mk H
              clear H
              go_wp2
              go_loopg [3, 5] k2 (fun kq v3 v5 w' => ∃ (x3_3 : List (S23)) (x5_3 : Int), v5 = .int .i64 x5_3 ∧ Aside0 (swageref06_All.l1 kq a0 x3_3 x4_2 x5_3 = some r) ∧ Aside0 (kq ≤ k2) ∧ Aside0 (Kd.R k23 23 w' w.heap.size (fun _ => True) v3 x3_3) ∧ Aside0 (Below w.heap.size w w'))
              case atStart => exact ⟨(x3_2), (0), (by first | rfl | (simp; done) | (simp [*]; done)), H', ⟨Nat.le_refl _⟩, ⟨by (with_reducible repeat (first | apply Kd.R_alloc | apply Kd.R_drewN | apply Kd.R_drew)); exact HO_3.out⟩, ⟨by repeat (first | (with_reducible first | exact HB.out | apply below_alloc | apply pw_below_drewN | apply below_drew1) | exact HB.out)⟩⟩
              case round =>
                clear H'
                try clear c4
                try clear c7
                obtain ⟨x3_3, x5_3, rfl, HA, HK3, HO_3, HB⟩ := hrel
                cases gk with
                | zero => exact absurd HA.out (by simp [swageref06_All.l1])
                | succ k3 =>
                  have H := HA.out
                  clear HA
                  simp only [swageref06_All.l1] at H
                  by_cases c8 : x5_3 ≤ x4_2
                  · rw [if_pos c8] at H
                    have c8b0 : decide (x5_3 ≤ x4_2) = true := decide_eq_true c8
                    clear c8
                    have H' := Aside0.mk H
                    clear H
                    go_wp2
                    go_loopg [3, 6] k3 (fun kq v3 v6 w' => ∃ (x3_4 : List (S23)) (x6_4 : Int), v6 = .int .i64 x6_4 ∧ Aside0 (swageref06_All.l2 kq a0 x3_4 x4_2 x5_3 x6_4 = some r) ∧ Aside0 (kq ≤ k3) ∧ Aside0 (Kd.R k23 23 w' w.heap.size (fun _ => True) v3 x3_4) ∧ Aside0 (Below w.heap.size w w'))
                    case atStart => exact ⟨(x3_3), (1), (by first | rfl | (simp; done) | (simp [*]; done)), H', ⟨Nat.le_refl _⟩, ⟨by (with_reducible repeat (first | apply Kd.R_alloc | apply Kd.R_drewN | apply Kd.R_drew)); exact HO_3.out⟩, ⟨by repeat (first | (with_reducible first | exact HB.out | apply below_alloc | apply pw_below_drewN | apply below_drew1) | exact HB.out)⟩⟩
                    case round =>
                      clear H'
                      try clear c4
                      try clear c7
                      try clear c8
                      obtain ⟨x3_4, x6_4, rfl, HA, HK4, HO_3, HB⟩ := hrel
                      cases gk with
                      | zero => exact absurd HA.out (by simp [swageref06_All.l2])
                      | succ k4 =>
                        have H := HA.out
                        clear HA
                        simp only [swageref06_All.l2] at H
                        by_cases c9 : x6_4 ≤ x4_2
                        · rw [if_pos c9] at H
                          have c9b0 : decide (x6_4 ≤ x4_2) = true := decide_eq_true c9
                          clear c9
                          by_cases c10 : x6_4 = x4_2
                          · rw [if_pos c10] at H
                            have c10b0 : (x6_4 == x4_2) = true := beq_iff_eq.mpr c10
                            have c10b1 : (x6_4 != x4_2) = false := bne_eq_false_iff_eq.mpr c10
                            clear c10
                            replace H := Option.bind_eq_some_iff.mp H
                            obtain ⟨⟨t222, t223⟩, A110, H⟩ := H
                            replace H : (if (!(t222 == x6_4) || (!(t223 == x5_3))) = true then (swageref06_All.l2 k4 a0 x3_4 x4_2 x5_3 (wrap64 (x6_4 + 1))) else (if x5_3 = 0 then (swageref06_All.l2 k4 a0 x3_4 x4_2 x5_3 (wrap64 (x6_4 + 1))) else ((some (([(⟨x6_4, x5_3⟩ : S23), (⟨wrap64 (-x6_4), x5_3⟩ : S23)] : List (S23)) : List (S23))).bind fun y224 => (if x3_4.length + y224.length < 8796093022208 then (swageref06_All.l2 k4 a0 (x3_4 ++ y224) x4_2 x5_3 (wrap64 (x6_4 + 1))) else (none))))) = some r := H
                            have A11 := Aside0.mk A110
                            clear A110
                            by_cases c12 : (!(t222 == x6_4) || (!(t223 == x5_3))) = true
                            · rw [if_pos c12] at H
                              have c12b0 : (!(t222 == x6_4) || (!(t223 == x5_3))) = true := c12
                              clear c12
                              have H' := Aside0.mk H
                              clear H
                              go_wp2_with (first | (go_at_call 16; (with_reducible refine (swageref06_Norm.calls k4 x6_4 x5_3 t222 t223 _ A11.out).mono ?_); rintro e w13 ⟨rfl, hb⟩; have n0_ := Aside0.mk (Kd.R_below (by (with_reducible repeat (first | apply Kd.R_alloc | apply Kd.R_drewN | apply Kd.R_drew)); exact HO_3.out) hb); have n1_ := Aside0.mk (below_step (by repeat (first | (with_reducible first | exact HB.out | apply below_alloc | apply pw_below_drewN | apply below_drew1) | exact HB.out)) hb); clear HO_3; clear HB; have HO_3 := n0_; have HB := n1_; clear n0_ n1_; (try clear hb); (try clear hb2); (try clear hk); (try clear hi)))
                              go_roundg k4
                              case measure => have := HJ1.out; have := HK2.out; have := HK3.out; have := HK4.out; omega
                              case rel => exact ⟨(x3_4), (wrap64 (x6_4 + 1)), (by first | rfl | (simp; done) | (simp [*]; done)), H', ⟨by have := HJ1.out; have := HK2.out; have := HK3.out; have := HK4.out; omega⟩, ⟨by (with_reducible repeat (first | apply Kd.R_alloc | apply Kd.R_drewN | apply Kd.R_drew)); exact HO_3.out⟩, ⟨by repeat (first | (with_reducible first | exact HB.out | apply below_alloc | apply pw_below_drewN | apply below_drew1) | exact HB.out)⟩⟩
                            · rw [if_neg c12] at H
                              have c12b0 : (!(t222 == x6_4) || (!(t223 == x5_3))) = false := by simpa using c12
                              clear c12
                              by_cases c14 : x5_3 = 0
                              · rw [if_pos c14] at H
                                have c14b0 : (x5_3 == 0) = true := beq_iff_eq.mpr c14
                                have c14b1 : (x5_3 != 0) = false := bne_eq_false_iff_eq.mpr c14
                                clear c14
                                have H' := Aside0.mk H
                                clear H
                                go_wp2_with (first | (go_at_call 16; (with_reducible refine (swageref06_Norm.calls k4 x6_4 x5_3 t222 t223 _ A11.out).mono ?_); rintro e w15 ⟨rfl, hb⟩; have n0_ := Aside0.mk (Kd.R_below (by (with_reducible repeat (first | apply Kd.R_alloc | apply Kd.R_drewN | apply Kd.R_drew)); exact HO_3.out) hb); have n1_ := Aside0.mk (below_step (by repeat (first | (with_reducible first | exact HB.out | apply below_alloc | apply pw_below_drewN | apply below_drew1) | exact HB.out)) hb); clear HO_3; clear HB; have HO_3 := n0_; have HB := n1_; clear n0_ n1_; (try clear hb); (try clear hb2); (try clear hk); (try clear hi)))
                                go_roundg k4
                                case measure => have := HJ1.out; have := HK2.out; have := HK3.out; have := HK4.out; omega
                                case rel => exact ⟨(x3_4), (wrap64 (x6_4 + 1)), (by first | rfl | (simp; done) | (simp [*]; done)), H', ⟨by have := HJ1.out; have := HK2.out; have := HK3.out; have := HK4.out; omega⟩, ⟨by (with_reducible repeat (first | apply Kd.R_alloc | apply Kd.R_drewN | apply Kd.R_drew)); exact HO_3.out⟩, ⟨by repeat (first | (with_reducible first | exact HB.out | apply below_alloc | apply pw_below_drewN | apply below_drew1) | exact HB.out)⟩⟩
                              · rw [if_neg c14] at H
                                have c14b0 : (x5_3 == 0) = false := beq_eq_false_iff_ne.mpr c14
                                have c14b1 : (x5_3 != 0) = true := bne_iff_ne.mpr c14
                                obtain ⟨y224, hy224⟩ : ∃ y_ : List (S23), y_ = (([(⟨x6_4, x5_3⟩ : S23), (⟨wrap64 (-x6_4), x5_3⟩ : S23)] : List (S23))) := ⟨_, rfl⟩
                                replace H : (if x3_4.length + y224.length < 8796093022208 then (swageref06_All.l2 k4 a0 (x3_4 ++ y224) x4_2 x5_3 (wrap64 (x6_4 + 1))) else (none)) = some r := by first | (rw [hy224]; with_reducible exact H) | (have H2_ := (Option.bind_some _ _).symm.trans H; rw [hy224]; with_reducible exact H2_) | (have H2_ := (Option.bind_some _ _).symm.trans H; with_reducible exact H2_) | with_reducible exact H | (rw [hy224]; exact H) | exact H
                                have Ny224 := Aside0.mk hy224
                                clear hy224
                                by_cases c16 : x3_4.length + y224.length < 8796093022208
                                · rw [if_pos c16] at H
                                  have LMc16 := Aside0.mk c16
                                  clear c16
                                  obtain ⟨y227, hy227⟩ : ∃ y_ : List (S23), y_ = (x3_4 ++ y224) := ⟨_, rfl⟩
                                  replace H : (swageref06_All.l2 k4 a0 y227 x4_2 x5_3 (wrap64 (x6_4 + 1))) = some r := by first | (rw [hy227]; with_reducible exact H) | (have H2_ := (Option.bind_some _ _).symm.trans H; rw [hy227]; with_reducible exact H2_) | (have H2_ := (Option.bind_some _ _).symm.trans H; with_reducible exact H2_) | with_reducible exact H | (rw [hy227]; exact H) | exact H
                                  have Ny227 := Aside0.mk hy227
                                  clear hy227
                                  have H' := Aside0.mk H
                                  clear H
                                  go_wp2_with (first | (go_at_call 16; (with_reducible refine (swageref06_Norm.calls k4 x6_4 x5_3 t222 t223 _ A11.out).mono ?_); rintro e w17 ⟨rfl, hb⟩; have n0_ := Aside0.mk (Kd.R_below (by (with_reducible repeat (first | apply Kd.R_alloc | apply Kd.R_drewN | apply Kd.R_drew)); exact HO_3.out) hb); have n1_ := Aside0.mk (below_step (by repeat (first | (with_reducible first | exact HB.out | apply below_alloc | apply pw_below_drewN | apply below_drew1) | exact HB.out)) hb); clear HO_3; clear HB; have HO_3 := n0_; have HB := n1_; clear n0_ n1_; (try clear hb); (try clear hb2); (try clear hk); (try clear hi)) | ((with_reducible refine gate_dst (N := 61) rfl ?_); refine Kd.R_lit k23 _ 23 ?hg (N := 61) ?hd (xs := ([(⟨x6_4, x5_3⟩ : S23), (⟨wrap64 (-x6_4), x5_3⟩ : S23)] : List (S23))) (inner := [.int .i64 x6_4, .int .i64 x5_3, .int .i64 (wrap64 (-x6_4)), .int .i64 x5_3]) (ok := fun _ => True) (okp := fun _ => True) ?hr ?hp (fun _ hk => hk) trivial (Below.refl _ _) (Nat.le_refl _) (by simp) ?_; (case hd => rfl); (case hg => rfl); (case hr => first | (go_simp; done) | (go_simp; rfl)); (case hp => exact (Reps.c2 (show Kd.M k23 _ _ _ (⟨x6_4, x5_3⟩ : S23) [.int .i64 x6_4, .int .i64 x5_3] from (k23_mkM _ _ _ (⟨x6_4, x5_3⟩ : S23) )) (Reps.c2 (show Kd.M k23 _ _ _ (⟨wrap64 (-x6_4), x5_3⟩ : S23) [.int .i64 (wrap64 (-x6_4)), .int .i64 x5_3] from (k23_mkM _ _ _ (⟨wrap64 (-x6_4), x5_3⟩ : S23) )) (Reps.none _ _)))); intro v225 w18 ho19 hb hg_ hnew_; clear hg_ hnew_; (first | rw [← Ny224.out] at ho19 | (simp only [Int.reduceToNat] at ho19; rw [← Ny224.out] at ho19)); have n0_ := Aside0.mk (Kd.R_elder' (by (with_reducible repeat (first | apply Kd.R_alloc | apply Kd.R_drewN | apply Kd.R_drew)); exact HO_3.out) (Kd.R_base ho19) hb); have n1_ := Aside0.mk (Kd.R_lower (Kd.R_new' ho19 (Kd.R_lt (by (with_reducible repeat (first | apply Kd.R_alloc | apply Kd.R_drewN | apply Kd.R_drew)); exact HO_3.out))) (below_size (by repeat (first | (with_reducible first | exact HB.out | apply below_alloc | apply pw_below_drewN | apply below_drew1) | exact HB.out)))); have n2_ := Aside0.mk (below_step (by repeat (first | (with_reducible first | exact HB.out | apply below_alloc | apply pw_below_drewN | apply below_drew1) | exact HB.out)) hb); clear HO_3; clear HB; have HO_3 := n0_; have HO226 := n1_; have HB := n2_; clear n0_ n1_ n2_; clear hb ho19; obtain ⟨Ao21, co21, eo21⟩ := Kd.R_slice HO226.out; subst eo21) | ((with_reducible refine gate_builtin (b := .append) (xs := #[.tmp 53, .tmp 61]) rfl ?_); at_builtin; refine Kd.R_append_rows k23 (w0 := w) w.heap.size rfl (.tmp 53) (.tmp 61) 36 23 (.agg #[(.int .i64 0), (.int .i64 0)]) 16 rfl Try.underlying36 info23 rfl (by decide) (by omega) u3 x3_4 y224 _ _ _ (fun k_ => some k_ ≠ (.slice Ao21 y224.length co21 : Value).ownBlock) (fun _ => False) rfl rfl ?aO ?aR (fun _ _ h => h) (fun _ h => h.elim) ?aF ?aB ?aS ?aL ?_; (case aR => repeat (first | exact (Kd.R_reads' HO226.out).2.2 | (with_reducible refine Kd.C_alloc ?_ _) | (with_reducible refine Kd.C_drewN ?_ _) | (with_reducible refine Kd.C_drew ?_))); (case aB => exact (by repeat (first | (with_reducible first | exact HB.out | apply below_alloc | apply pw_below_drewN | apply below_drew1) | exact HB.out))); (case aF => exact (fun k_ hk => Kd.fresh' (Kd.R_lt (by (with_reducible repeat (first | apply Kd.R_alloc | apply Kd.R_drewN | apply Kd.R_drew)); exact HO226.out)) k_ hk)); (case aO => exact (by (with_reducible repeat (first | apply Kd.R_alloc | apply Kd.R_drewN | apply Kd.R_drew)); exact Kd.R_mono HO_3.out (fun _ hk => hk.2))); (case aS => exact (below_size (by repeat (first | (with_reducible first | exact HB.out | apply below_alloc | apply pw_below_drewN | apply below_drew1) | exact HB.out)))); (case aL => have := LMc16.out; omega); intro v228 w20 ho hb hg hat; rw [← Ny227.out] at ho; have n0_ := Aside0.mk (Kd.R_after (ok := (fun _ => True)) (by (with_reducible repeat (first | apply Kd.R_alloc | apply Kd.R_drewN | apply Kd.R_drew)); exact HO226.out) hg hat); have n1_ := Aside0.mk (hb); have n2_ := Aside0.mk (ho); clear HO226; clear HB; clear HO_3; have HO226 := n0_; have HB := n1_; have HO229 := n2_; clear n0_ n1_ n2_; clear ho hb hg hat))
                                  go_roundg k4
                                  case measure => have := HJ1.out; have := HK2.out; have := HK3.out; have := HK4.out; omega
                                  case rel => exact ⟨(y227), (wrap64 (x6_4 + 1)), (by first | rfl | (simp; done) | (simp [*]; done)), H', ⟨by have := HJ1.out; have := HK2.out; have := HK3.out; have := HK4.out; omega⟩, ⟨by (with_reducible repeat (first | apply Kd.R_alloc | apply Kd.R_drewN | apply Kd.R_drew)); exact Kd.R_mono HO229.out (fun _ hk => trivial)⟩, ⟨by repeat (first | (with_reducible first | exact HB.out | apply below_alloc | apply pw_below_drewN | apply below_drew1) | exact HB.out)⟩⟩
                                · rw [if_neg c16] at H
                                  exact absurd H (by simp)
                          · rw [if_neg c10] at H
                            have c10b0 : (x6_4 == x4_2) = false := beq_eq_false_iff_ne.mpr c10
                            have c10b1 : (x6_4 != x4_2) = true := bne_iff_ne.mpr c10
                            by_cases c22 : x5_3 = x4_2
                            · rw [if_pos c22] at H
                              have c22b0 : (x5_3 == x4_2) = true := beq_iff_eq.mpr c22
                              have c22b1 : (x5_3 != x4_2) = false := bne_eq_false_iff_eq.mpr c22
                              clear c22
                              replace H := Option.bind_eq_some_iff.mp H
                              obtain ⟨⟨t230, t231⟩, A230, H⟩ := H
                              replace H : (if (!(t230 == x6_4) || (!(t231 == x5_3))) = true then (swageref06_All.l2 k4 a0 x3_4 x4_2 x5_3 (wrap64 (x6_4 + 1))) else (if x5_3 = 0 then (swageref06_All.l2 k4 a0 x3_4 x4_2 x5_3 (wrap64 (x6_4 + 1))) else ((some (([(⟨x6_4, x5_3⟩ : S23), (⟨wrap64 (-x6_4), x5_3⟩ : S23)] : List (S23)) : List (S23))).bind fun y232 => (if x3_4.length + y232.length < 8796093022208 then (swageref06_All.l2 k4 a0 (x3_4 ++ y232) x4_2 x5_3 (wrap64 (x6_4 + 1))) else (none))))) = some r := H
                              have A23 := Aside0.mk A230
                              clear A230
                              by_cases c24 : (!(t230 == x6_4) || (!(t231 == x5_3))) = true
                              · rw [if_pos c24] at H
                                have c24b0 : (!(t230 == x6_4) || (!(t231 == x5_3))) = true := c24
                                clear c24
                                have H' := Aside0.mk H
                                clear H
                                go_wp2_with (first | (go_at_call 16; (with_reducible refine (swageref06_Norm.calls k4 x6_4 x5_3 t230 t231 _ A23.out).mono ?_); rintro e w25 ⟨rfl, hb⟩; have n0_ := Aside0.mk (Kd.R_below (by (with_reducible repeat (first | apply Kd.R_alloc | apply Kd.R_drewN | apply Kd.R_drew)); exact HO_3.out) hb); have n1_ := Aside0.mk (below_step (by repeat (first | (with_reducible first | exact HB.out | apply below_alloc | apply pw_below_drewN | apply below_drew1) | exact HB.out)) hb); clear HO_3; clear HB; have HO_3 := n0_; have HB := n1_; clear n0_ n1_; (try clear hb); (try clear hb2); (try clear hk); (try clear hi)))
                                go_roundg k4
                                case measure => have := HJ1.out; have := HK2.out; have := HK3.out; have := HK4.out; omega
                                case rel => exact ⟨(x3_4), (wrap64 (x6_4 + 1)), (by first | rfl | (simp; done) | (simp [*]; done)), H', ⟨by have := HJ1.out; have := HK2.out; have := HK3.out; have := HK4.out; omega⟩, ⟨by (with_reducible repeat (first | apply Kd.R_alloc | apply Kd.R_drewN | apply Kd.R_drew)); exact HO_3.out⟩, ⟨by repeat (first | (with_reducible first | exact HB.out | apply below_alloc | apply pw_below_drewN | apply below_drew1) | exact HB.out)⟩⟩
                              · rw [if_neg c24] at H
                                have c24b0 : (!(t230 == x6_4) || (!(t231 == x5_3))) = false := by simpa using c24
                                clear c24
                                by_cases c26 : x5_3 = 0
                                · rw [if_pos c26] at H
                                  have c26b0 : (x5_3 == 0) = true := beq_iff_eq.mpr c26
                                  have c26b1 : (x5_3 != 0) = false := bne_eq_false_iff_eq.mpr c26
                                  clear c26
                                  have H' := Aside0.mk H
                                  clear H
                                  go_wp2_with (first | (go_at_call 16; (with_reducible refine (swageref06_Norm.calls k4 x6_4 x5_3 t230 t231 _ A23.out).mono ?_); rintro e w27 ⟨rfl, hb⟩; have n0_ := Aside0.mk (Kd.R_below (by (with_reducible repeat (first | apply Kd.R_alloc | apply Kd.R_drewN | apply Kd.R_drew)); exact HO_3.out) hb); have n1_ := Aside0.mk (below_step (by repeat (first | (with_reducible first | exact HB.out | apply below_alloc | apply pw_below_drewN | apply below_drew1) | exact HB.out)) hb); clear HO_3; clear HB; have HO_3 := n0_; have HB := n1_; clear n0_ n1_; (try clear hb); (try clear hb2); (try clear hk); (try clear hi)))
                                  go_roundg k4
                                  case measure => have := HJ1.out; have := HK2.out; have := HK3.out; have := HK4.out; omega
                                  case rel => exact ⟨(x3_4), (wrap64 (x6_4 + 1)), (by first | rfl | (simp; done) | (simp [*]; done)), H', ⟨by have := HJ1.out; have := HK2.out; have := HK3.out; have := HK4.out; omega⟩, ⟨by (with_reducible repeat (first | apply Kd.R_alloc | apply Kd.R_drewN | apply Kd.R_drew)); exact HO_3.out⟩, ⟨by repeat (first | (with_reducible first | exact HB.out | apply below_alloc | apply pw_below_drewN | apply below_drew1) | exact HB.out)⟩⟩
                                · rw [if_neg c26] at H
                                  have c26b0 : (x5_3 == 0) = false := beq_eq_false_iff_ne.mpr c26
                                  have c26b1 : (x5_3 != 0) = true := bne_iff_ne.mpr c26
                                  obtain ⟨y232, hy232⟩ : ∃ y_ : List (S23), y_ = (([(⟨x6_4, x5_3⟩ : S23), (⟨wrap64 (-x6_4), x5_3⟩ : S23)] : List (S23))) := ⟨_, rfl⟩
                                  replace H : (if x3_4.length + y232.length < 8796093022208 then (swageref06_All.l2 k4 a0 (x3_4 ++ y232) x4_2 x5_3 (wrap64 (x6_4 + 1))) else (none)) = some r := by first | (rw [hy232]; with_reducible exact H) | (have H2_ := (Option.bind_some _ _).symm.trans H; rw [hy232]; with_reducible exact H2_) | (have H2_ := (Option.bind_some _ _).symm.trans H; with_reducible exact H2_) | with_reducible exact H | (rw [hy232]; exact H) | exact H
                                  have Ny232 := Aside0.mk hy232
                                  clear hy232
                                  by_cases c28 : x3_4.length + y232.length < 8796093022208
                                  · rw [if_pos c28] at H
                                    have LMc28 := Aside0.mk c28
                                    clear c28
                                    obtain ⟨y235, hy235⟩ : ∃ y_ : List (S23), y_ = (x3_4 ++ y232) := ⟨_, rfl⟩
                                    replace H : (swageref06_All.l2 k4 a0 y235 x4_2 x5_3 (wrap64 (x6_4 + 1))) = some r := by first | (rw [hy235]; with_reducible exact H) | (have H2_ := (Option.bind_some _ _).symm.trans H; rw [hy235]; with_reducible exact H2_) | (have H2_ := (Option.bind_some _ _).symm.trans H; with_reducible exact H2_) | with_reducible exact H | (rw [hy235]; exact H) | exact H
                                    have Ny235 := Aside0.mk hy235
                                    clear hy235
                                    have H' := Aside0.mk H
                                    clear H
                                    go_wp2_with (first | (go_at_call 16; (with_reducible refine (swageref06_Norm.calls k4 x6_4 x5_3 t230 t231 _ A23.out).mono ?_); rintro e w29 ⟨rfl, hb⟩; have n0_ := Aside0.mk (Kd.R_below (by (with_reducible repeat (first | apply Kd.R_alloc | apply Kd.R_drewN | apply Kd.R_drew)); exact HO_3.out) hb); have n1_ := Aside0.mk (below_step (by repeat (first | (with_reducible first | exact HB.out | apply below_alloc | apply pw_below_drewN | apply below_drew1) | exact HB.out)) hb); clear HO_3; clear HB; have HO_3 := n0_; have HB := n1_; clear n0_ n1_; (try clear hb); (try clear hb2); (try clear hk); (try clear hi)) | ((with_reducible refine gate_dst (N := 61) rfl ?_); refine Kd.R_lit k23 _ 23 ?hg (N := 61) ?hd (xs := ([(⟨x6_4, x5_3⟩ : S23), (⟨wrap64 (-x6_4), x5_3⟩ : S23)] : List (S23))) (inner := [.int .i64 x6_4, .int .i64 x5_3, .int .i64 (wrap64 (-x6_4)), .int .i64 x5_3]) (ok := fun _ => True) (okp := fun _ => True) ?hr ?hp (fun _ hk => hk) trivial (Below.refl _ _) (Nat.le_refl _) (by simp) ?_; (case hd => rfl); (case hg => rfl); (case hr => first | (go_simp; done) | (go_simp; rfl)); (case hp => exact (Reps.c2 (show Kd.M k23 _ _ _ (⟨x6_4, x5_3⟩ : S23) [.int .i64 x6_4, .int .i64 x5_3] from (k23_mkM _ _ _ (⟨x6_4, x5_3⟩ : S23) )) (Reps.c2 (show Kd.M k23 _ _ _ (⟨wrap64 (-x6_4), x5_3⟩ : S23) [.int .i64 (wrap64 (-x6_4)), .int .i64 x5_3] from (k23_mkM _ _ _ (⟨wrap64 (-x6_4), x5_3⟩ : S23) )) (Reps.none _ _)))); intro v233 w30 ho31 hb hg_ hnew_; clear hg_ hnew_; (first | rw [← Ny232.out] at ho31 | (simp only [Int.reduceToNat] at ho31; rw [← Ny232.out] at ho31)); have n0_ := Aside0.mk (Kd.R_elder' (by (with_reducible repeat (first | apply Kd.R_alloc | apply Kd.R_drewN | apply Kd.R_drew)); exact HO_3.out) (Kd.R_base ho31) hb); have n1_ := Aside0.mk (Kd.R_lower (Kd.R_new' ho31 (Kd.R_lt (by (with_reducible repeat (first | apply Kd.R_alloc | apply Kd.R_drewN | apply Kd.R_drew)); exact HO_3.out))) (below_size (by repeat (first | (with_reducible first | exact HB.out | apply below_alloc | apply pw_below_drewN | apply below_drew1) | exact HB.out)))); have n2_ := Aside0.mk (below_step (by repeat (first | (with_reducible first | exact HB.out | apply below_alloc | apply pw_below_drewN | apply below_drew1) | exact HB.out)) hb); clear HO_3; clear HB; have HO_3 := n0_; have HO234 := n1_; have HB := n2_; clear n0_ n1_ n2_; clear hb ho31; obtain ⟨Ao33, co33, eo33⟩ := Kd.R_slice HO234.out; subst eo33) | ((with_reducible refine gate_builtin (b := .append) (xs := #[.tmp 53, .tmp 61]) rfl ?_); at_builtin; refine Kd.R_append_rows k23 (w0 := w) w.heap.size rfl (.tmp 53) (.tmp 61) 36 23 (.agg #[(.int .i64 0), (.int .i64 0)]) 16 rfl Try.underlying36 info23 rfl (by decide) (by omega) u3 x3_4 y232 _ _ _ (fun k_ => some k_ ≠ (.slice Ao33 y232.length co33 : Value).ownBlock) (fun _ => False) rfl rfl ?aO ?aR (fun _ _ h => h) (fun _ h => h.elim) ?aF ?aB ?aS ?aL ?_; (case aR => repeat (first | exact (Kd.R_reads' HO234.out).2.2 | (with_reducible refine Kd.C_alloc ?_ _) | (with_reducible refine Kd.C_drewN ?_ _) | (with_reducible refine Kd.C_drew ?_))); (case aB => exact (by repeat (first | (with_reducible first | exact HB.out | apply below_alloc | apply pw_below_drewN | apply below_drew1) | exact HB.out))); (case aF => exact (fun k_ hk => Kd.fresh' (Kd.R_lt (by (with_reducible repeat (first | apply Kd.R_alloc | apply Kd.R_drewN | apply Kd.R_drew)); exact HO234.out)) k_ hk)); (case aO => exact (by (with_reducible repeat (first | apply Kd.R_alloc | apply Kd.R_drewN | apply Kd.R_drew)); exact Kd.R_mono HO_3.out (fun _ hk => hk.2))); (case aS => exact (below_size (by repeat (first | (with_reducible first | exact HB.out | apply below_alloc | apply pw_below_drewN | apply below_drew1) | exact HB.out)))); (case aL => have := LMc28.out; omega); intro v236 w32 ho hb hg hat; rw [← Ny235.out] at ho; have n0_ := Aside0.mk (Kd.R_after (ok := (fun _ => True)) (by (with_reducible repeat (first | apply Kd.R_alloc | apply Kd.R_drewN | apply Kd.R_drew)); exact HO234.out) hg hat); have n1_ := Aside0.mk (hb); have n2_ := Aside0.mk (ho); clear HO234; clear HB; clear HO_3; have HO234 := n0_; have HB := n1_; have HO237 := n2_; clear n0_ n1_ n2_; clear ho hb hg hat))
                                    go_roundg k4
                                    case measure => have := HJ1.out; have := HK2.out; have := HK3.out; have := HK4.out; omega
                                    case rel => exact ⟨(y235), (wrap64 (x6_4 + 1)), (by first | rfl | (simp; done) | (simp [*]; done)), H', ⟨by have := HJ1.out; have := HK2.out; have := HK3.out; have := HK4.out; omega⟩, ⟨by (with_reducible repeat (first | apply Kd.R_alloc | apply Kd.R_drewN | apply Kd.R_drew)); exact Kd.R_mono HO237.out (fun _ hk => trivial)⟩, ⟨by repeat (first | (with_reducible first | exact HB.out | apply below_alloc | apply pw_below_drewN | apply below_drew1) | exact HB.out)⟩⟩
                                  · rw [if_neg c28] at H
                                    exact absurd H (by simp)
                            · rw [if_neg c22] at H
                              have c22b0 : (x5_3 == x4_2) = false := beq_eq_false_iff_ne.mpr c22
                              have c22b1 : (x5_3 != x4_2) = true := bne_iff_ne.mpr c22
                              have H' := Aside0.mk H
                              clear H
                              go_wp2
                              go_roundg k4
                              case measure => have := HJ1.out; have := HK2.out; have := HK3.out; have := HK4.out; omega
                              case rel => exact ⟨(x3_4), (wrap64 (x6_4 + 1)), (by first | rfl | (simp; done) | (simp [*]; done)), H', ⟨by have := HJ1.out; have := HK2.out; have := HK3.out; have := HK4.out; omega⟩, ⟨by (with_reducible repeat (first | apply Kd.R_alloc | apply Kd.R_drewN | apply Kd.R_drew)); exact HO_3.out⟩, ⟨by repeat (first | (with_reducible first | exact HB.out | apply below_alloc | apply pw_below_drewN | apply below_drew1) | exact HB.out)⟩⟩
                        · rw [if_neg c9] at H
                          have c9b0 : decide (x6_4 ≤ x4_2) = false := decide_eq_false c9
                          clear c9
                          have H' := Aside0.mk H
                          clear H
                          go_wp2
                          go_roundg k4
                          case measure => have := HJ1.out; have := HK2.out; have := HK3.out; have := HK4.out; omega
                          case rel => exact ⟨(x3_4), (wrap64 (x5_3 + 1)), (by first | rfl | (simp; done) | (simp [*]; done)), H', ⟨by have := HJ1.out; have := HK2.out; have := HK3.out; have := HK4.out; omega⟩, ⟨by (with_reducible repeat (first | apply Kd.R_alloc | apply Kd.R_drewN | apply Kd.R_drew)); exact HO_3.out⟩, ⟨by repeat (first | (with_reducible first | exact HB.out | apply below_alloc | apply pw_below_drewN | apply below_drew1) | exact HB.out)⟩⟩
                  · rw [if_neg c8] at H
                    have c8b0 : decide (x5_3 ≤ x4_2) = false := decide_eq_false c8
                    clear c8
                    have H' := Aside0.mk H
                    clear H
                    go_wp2
                    go_roundg k3
                    case measure => have := HJ1.out; have := HK2.out; have := HK3.out; omega
                    case rel => exact ⟨(x3_3), (wrap64 (x4_2 + 1)), (by first | rfl | (simp; done) | (simp [*]; done)), H', ⟨by have := HJ1.out; have := HK2.out; have := HK3.out; omega⟩, ⟨by (with_reducible repeat (first | apply Kd.R_alloc | apply Kd.R_drewN | apply Kd.R_drew)); exact HO_3.out⟩, ⟨by repeat (first | (with_reducible first | exact HB.out | apply below_alloc | apply pw_below_drewN | apply below_drew1) | exact HB.out)⟩⟩
            · rw [if_neg c7] at H
              have c7b0 : decide (x4_2 ≤ a0) = false := decide_eq_false c7
              clear c7
              obtain rfl := Option.some.inj H
              go_wp2
              go_ret
              exact ⟨_, by first | rfl | (simp [errW_none, errW_some] <;> rfl) | (simp [*, errW_none, errW_some] <;> rfl), by (with_reducible repeat (first | apply Kd.R_alloc | apply Kd.R_drewN | apply Kd.R_drew)); exact HO_3.out, by repeat (first | (with_reducible first | exact HB.out | apply below_alloc | apply pw_below_drewN | apply below_drew1) | exact HB.out)⟩

end Go.Proofs.Ytfkjmmpolingbaa.XA
end
