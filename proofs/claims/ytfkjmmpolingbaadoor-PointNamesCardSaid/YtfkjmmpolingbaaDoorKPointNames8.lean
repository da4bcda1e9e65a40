/- Part 8 of the proof of the law PointNames for every input: words, walks and plain laws. No condition. -/
import Derived.Test.YtfkjmmpolingbaaDoorKPointNames7
section
namespace Go.Proofs.YtfkjmmpolingbaaDoor.XA
open Go.RowKit Go.Proofs.YtfkjmmpolingbaaDoorW.PrintWords Go.Proofs.YtfkjmmpolingbaaDoorW.PrintLast Go.Proofs.YtfkjmmpolingbaaDoorW.PrintMore
attribute [local go_sem] max2_int min2_int max_two min_two max_three min_three max_four min_four   -- for this text's walks alone
set_option linter.unusedVariables false
set_option linter.unusedSimpArgs false

attribute [local go_sem high] eqA27
/-! ### swageref06_All: function 13 -/
mutual
def swageref06_All.j0 : Nat → Int → Bool → Option ((List (S27)))
  | 0, _, _ => none
  | k + 1, x0, x12 => if x12 = true then (some ([] : List (S27))) else (swageref06_All.l0 k x0 (([(⟨0, 1⟩ : S27), (⟨1, 0⟩ : S27)] : List (S27))) 1)
def swageref06_All.l0 : Nat → Int → List (S27) → Int → Option ((List (S27)))
  | 0, _, _, _ => none
  | k + 1, x0, x3, x4 => if x4 ≤ x0 then (swageref06_All.l1 k x0 x3 x4 0) else (some x3)
def swageref06_All.l1 : Nat → Int → List (S27) → Int → Int → Option ((List (S27)))
  | 0, _, _, _, _ => none
  | k + 1, x0, x3, x4, x5 => if x5 ≤ x4 then (swageref06_All.l2 k x0 x3 x4 x5 1) else (swageref06_All.l0 k x0 x3 (wrap64 (x4 + 1)))
def swageref06_All.l2 : Nat → Int → List (S27) → Int → Int → Int → Option ((List (S27)))
  | 0, _, _, _, _, _ => none
  | k + 1, x0, x3, x4, x5, x6 => if x6 ≤ x4 then (if x6 = x4 then ((swageref06_Norm.f k x6 x5).bind fun bt433 => (if (!(bt433.1 == x6) || (!(bt433.2 == x5))) = true then (swageref06_All.l2 k x0 x3 x4 x5 (wrap64 (x6 + 1))) else (if x5 = 0 then (swageref06_All.l2 k x0 x3 x4 x5 (wrap64 (x6 + 1))) else ((some (([(⟨x6, x5⟩ : S27), (⟨wrap64 (-x6), x5⟩ : S27)] : List (S27)) : List (S27))).bind fun y435 => (if x3.length + y435.length < 8796093022208 then (swageref06_All.l2 k x0 (x3 ++ y435) x4 x5 (wrap64 (x6 + 1))) else (none)))))) else (if x5 = x4 then ((swageref06_Norm.f k x6 x5).bind fun bt441 => (if (!(bt441.1 == x6) || (!(bt441.2 == x5))) = true then (swageref06_All.l2 k x0 x3 x4 x5 (wrap64 (x6 + 1))) else (if x5 = 0 then (swageref06_All.l2 k x0 x3 x4 x5 (wrap64 (x6 + 1))) else ((some (([(⟨x6, x5⟩ : S27), (⟨wrap64 (-x6), x5⟩ : S27)] : List (S27)) : List (S27))).bind fun y443 => (if x3.length + y443.length < 8796093022208 then (swageref06_All.l2 k x0 (x3 ++ y443) x4 x5 (wrap64 (x6 + 1))) else (none)))))) else (swageref06_All.l2 k x0 x3 x4 x5 (wrap64 (x6 + 1))))) else (swageref06_All.l1 k x0 x3 x4 (wrap64 (x5 + 1)))
end
def swageref06_All.f (k : Nat) (a0 : Int) : Option ((List (S27))) := if a0 < 1 then (swageref06_All.j0 k a0 true) else (swageref06_All.j0 k a0 (decide (a0 > 16)))
set_option maxHeartbeats 8000000 in
set_option maxRecDepth 100000 in
theorem swageref06_All.calls (k : Nat) (a0 : Int) (r : List (S27)) (w : World) (h : swageref06_All.f k a0 = some r) :
    Calls Tryd.prog 13 #[.int .i64 a0] w fun e w' => ∃ v0_ : Value, e = .returned (v0_) ∧ Kd.R k27 27 w' w.heap.size (fun _ => True) v0_ r ∧ Below w.heap.size w w' := by
  have hu27 := Tryd.underlying27
  have HB := Aside0.mk (Below.refl w.heap.size w)
  have H : (if a0 < 1 then (swageref06_All.j0 k a0 true) else (swageref06_All.j0 k a0 (decide (a0 > 16)))) = some r := h
  clear h
  have HC2 := Aside0.mk H
  clear H
  go_enter Tryd.func13, Tryd.ntmps13
  go_upto_region 1 with (fail)
  go_cut [12] (fun v12 wc => ∃ (kq : Nat) (x12_1 : Bool), v12 = .bool x12_1 ∧ Aside0 (swageref06_All.j0 kq a0 x12_1 = some r) ∧ Aside0 (kq ≤ k) ∧ Aside0 (Below w.heap.size w wc))
  case first =>
    have H := HC2.out
    clear HC2
    by_cases c3 : a0 < 1
    · rw [if_pos c3] at H
      have c3b0 : decide (a0 < 1) = true := decide_eq_true c3
      clear c3
      (first | rw [c3b0] | (simp only [i64_w, i32_w]; rw [c3b0]) | skip)
      have H' := Aside0.mk H
      clear H
      go_wp2
      go_meet
      case rel => exact ⟨_, (true), (by first | rfl | (simp; done) | (simp [*]; done)), H', ⟨by first | omega | exact Nat.le_refl _⟩, ⟨by repeat (first | (with_reducible first | exact HB.out | apply below_alloc | apply pw_below_drewN | apply below_drew1) | exact HB.out)⟩⟩
    · rw [if_neg c3] at H
      have c3b0 : decide (a0 < 1) = false := decide_eq_false c3
      clear c3
      (first | rw [c3b0] | (simp only [i64_w, i32_w]; rw [c3b0]) | skip)
      have H' := Aside0.mk H
      clear H
      go_wp2
      go_meet
      case rel => exact ⟨_, (decide (a0 > 16)), (by first | rfl | (simp; done) | (simp [*]; done) | (simp; omega)), H', ⟨by first | omega | exact Nat.le_refl _⟩, ⟨by repeat (first | (with_reducible first | exact HB.out | apply below_alloc | apply pw_below_drewN | apply below_drew1) | exact HB.out)⟩⟩
  case rest =>
    clear HC2
    obtain ⟨kq, x12_1, rfl, HA, HJ1, HB⟩ := hcut
    cases kq with
    | zero => exact absurd HA.out (by simp [swageref06_All.j0])
    | succ kj1 =>
      have H := HA.out
      clear HA
      simp only [swageref06_All.j0] at H
      by_cases c4 : x12_1 = true
      · subst c4
        have H1 : (some ([] : List (S27))) = some r := by rw [if_pos rfl] at H; exact H
        clear H
        have H := H1
        clear H1
        obtain rfl := Option.some.inj H
        go_wp2
        go_ret
        exact ⟨_, by first | rfl | (simp [errW_none, errW_some] <;> rfl) | (simp [*, errW_none, errW_some] <;> rfl), by first | exact Kd.R_nil _ _ _ _ _ | exact Kd.N_nil _ _ _ _ _ | exact Kd.V_nil _ _ _ _ _ | exact Kd.Q_nil _ _ _ _ _ | exact Kd.S_nil _ _ _ _ _, by repeat (first | (with_reducible first | exact HB.out | apply below_alloc | apply pw_below_drewN | apply below_drew1) | exact HB.out)⟩
      · replace c4 := Bool.eq_false_iff.mpr c4
        subst c4
        have H1 : (swageref06_All.l0 kj1 a0 (([(⟨0, 1⟩ : S27), (⟨1, 0⟩ : S27)] : List (S27))) 1) = some r := by rw [if_neg (show ¬ (false = true) by decide)] at H; exact H
        clear H
        have H := H1
        clear H1
        obtain ⟨y430, hy430⟩ : ∃ y_ : List (S27), y_ = (([(⟨0, 1⟩ : S27), (⟨1, 0⟩ : S27)] : List (S27))) := ⟨_, rfl⟩
        replace H : (swageref06_All.l0 kj1 a0 y430 1) = some r := by first | (rw [hy430]; with_reducible exact H) | (have H2_ := (Option.bind_some _ _).symm.trans H; rw [hy430]; with_reducible exact H2_) | (have H2_ := (Option.bind_some _ _).symm.trans H; with_reducible exact H2_) | with_reducible exact H | (rw [hy430]; exact H) | exact H
        have Ny430 := Aside0.mk hy430
        clear hy430
        have H' := Aside0.mk H
        clear H
        go_wp2_with (first | ((with_reducible refine gate_dst (N := 15) rfl ?_); refine Kd.R_lit k27 _ 27 ?hg (N := 15) ?hd (xs := ([(⟨0, 1⟩ : S27), (⟨1, 0⟩ : S27)] : List (S27))) (inner := [.int .i64 0, .int .i64 1, .int .i64 1, .int .i64 0]) (ok := fun _ => True) (okp := fun _ => True) ?hr ?hp (fun _ hk => hk) trivial (Below.refl _ _) (Nat.le_refl _) (by simp) ?_; (case hd => rfl); (case hg => rfl); (case hr => first | (go_simp; done) | (go_simp; rfl)); (case hp => exact (Reps.c2 (show Kd.M k27 _ _ _ (⟨0, 1⟩ : S27) [.int .i64 0, .int .i64 1] from (k27_mkM _ _ _ (⟨0, 1⟩ : S27) )) (Reps.c2 (show Kd.M k27 _ _ _ (⟨1, 0⟩ : S27) [.int .i64 1, .int .i64 0] from (k27_mkM _ _ _ (⟨1, 0⟩ : S27) )) (Reps.none _ _)))); intro v431 w5 ho6 hb hg_ hnew_; clear hg_ hnew_; (first | rw [← Ny430.out] at ho6 | (simp only [Int.reduceToNat] at ho6; rw [← Ny430.out] at ho6)); have n0_ := Aside0.mk (Kd.R_lower ho6 (below_size (by repeat (first | (with_reducible first | exact HB.out | apply below_alloc | apply pw_below_drewN | apply below_drew1) | exact HB.out)))); have n1_ := Aside0.mk (below_step (by repeat (first | (with_reducible first | exact HB.out | apply below_alloc | apply pw_below_drewN | apply below_drew1) | exact HB.out)) hb); clear HB; have HO432 := n0_; have HB := n1_; clear n0_ n1_; clear hb ho6))
        go_loopg [3, 4] kj1 (fun kq v3 v4 w' => ∃ (x3_2 : List (S27)) (x4_2 : Int), v4 = .int .i64 x4_2 ∧ Aside0 (swageref06_All.l0 kq a0 x3_2 x4_2 = some r) ∧ Aside0 (kq ≤ kj1) ∧ Aside0 (Kd.R k27 27 w' w.heap.size (fun _ => True) v3 x3_2) ∧ Aside0 (Below w.heap.size w w'))
        case atStart => exact ⟨(y430), (1), (by first | rfl | (simp; done) | (simp [*]; done)), H', ⟨Nat.le_refl _⟩, ⟨by (with_reducible repeat (first | apply Kd.R_alloc | apply Kd.R_drewN | apply Kd.R_drew)); exact HO432.out⟩, ⟨by repeat (first | (with_reducible first | exact HB.out | apply below_alloc | apply pw_below_drewN | apply below_drew1) | exact HB.out)⟩⟩
        case round =>
          clear H'
          try clear c4
          obtain ⟨x3_2, x4_2, rfl, HA, HK2, HO_3, HB⟩ := hrel
          cases gk with
          | zero => exact absurd HA.out (by simp [swageref06_All.l0])
          | succ k2 =>
            have H := HA.out
            clear HA
            simp only [swageref06_All.l0] at H
            by_cases c7 : x4_2 ≤ a0
            · rw [if_pos c7] at H
              have c7b0 : decide (x4_2 ≤ a0) = true := decide_eq_true c7
              clear c7
              have H' := Aside0.mk H
              clear H
              go_wp2
              go_loopg [3, 5] k2 (fun kq v3 v5 w' => ∃ (x3_3 : List (S27)) (x5_3 : Int), v5 = .int .i64 x5_3 ∧ Aside0 (swageref06_All.l1 kq a0 x3_3 x4_2 x5_3 = some r) ∧ Aside0 (kq ≤ k2) ∧ Aside0 (Kd.R k27 27 w' w.heap.size (fun _ => True) v3 x3_3) ∧ Aside0 (Below w.heap.size w w'))
              case atStart => exact ⟨(x3_2), (0), (by first | rfl | (simp; done) | (simp [*]; done)), H', ⟨Nat.le_refl _⟩, ⟨by (with_reducible repeat (first | apply Kd.R_alloc | apply Kd.R_drewN | apply Kd.R_drew)); exact HO_3.out⟩, ⟨by repeat (first | (with_reducible first | exact HB.out | apply below_alloc | apply pw_below_drewN | apply below_drew1) | exact HB.out)⟩⟩
              case round =>
                clear H'
                try clear c4
                try clear c7
                obtain ⟨x3_3, x5_3, rfl, HA, HK3, HO_3, HB⟩ := hrel
                cases gk with
                | zero => exact absurd HA.out (by simp [swageref06_All.l1])
                | succ k3 =>
                  have H := HA.out
                  clear HA
                  simp only [swageref06_All.l1] at H
                  by_cases c8 : x5_3 ≤ x4_2
                  · rw [if_pos c8] at H
                    have c8b0 : decide (x5_3 ≤ x4_2) = true := decide_eq_true c8
                    clear c8
                    have H' := Aside0.mk H
                    clear H
                    go_wp2
                    go_loopg [3, 6] k3 (fun kq v3 v6 w' => ∃ (x3_4 : List (S27)) (x6_4 : Int), v6 = .int .i64 x6_4 ∧ Aside0 (swageref06_All.l2 kq a0 x3_4 x4_2 x5_3 x6_4 = some r) ∧ Aside0 (kq ≤ k3) ∧ Aside0 (Kd.R k27 27 w' w.heap.size (fun _ => True) v3 x3_4) ∧ Aside0 (Below w.heap.size w w'))
                    case atStart => exact ⟨(x3_3), (1), (by first | rfl | (simp; done) | (simp [*]; done)), H', ⟨Nat.le_refl _⟩, ⟨by (with_reducible repeat (first | apply Kd.R_alloc | apply Kd.R_drewN | apply Kd.R_drew)); exact HO_3.out⟩, ⟨by repeat (first | (with_reducible first | exact HB.out | apply below_alloc | apply pw_below_drewN | apply below_drew1) | exact HB.out)⟩⟩
                    case round =>
                      clear H'
                      try clear c4
                      try clear c7
                      try clear c8
                      obtain ⟨x3_4, x6_4, rfl, HA, HK4, HO_3, HB⟩ := hrel
                      cases gk with
                      | zero => exact absurd HA.out (by simp [swageref06_All.l2])
                      | succ k4 =>
                        have H := HA.out
                        clear HA
                        simp only [swageref06_All.l2] at H
                        by_cases c9 : x6_4 ≤ x4_2
                        · rw [if_pos c9] at H
                          have c9b0 : decide (x6_4 ≤ x4_2) = true := decide_eq_true c9
                          clear c9
                          by_cases c10 : x6_4 = x4_2
                          · rw [if_pos c10] at H
                            have c10b0 : (x6_4 == x4_2) = true := beq_iff_eq.mpr c10
                            have c10b1 : (x6_4 != x4_2) = false := bne_eq_false_iff_eq.mpr c10
                            clear c10
                            replace H := Option.bind_eq_some_iff.mp H
                            obtain ⟨⟨t433, t434⟩, A110, H⟩ := H
                            replace H : (if (!(t433 == x6_4) || (!(t434 == x5_3))) = true then (swageref06_All.l2 k4 a0 x3_4 x4_2 x5_3 (wrap64 (x6_4 + 1))) else (if x5_3 = 0 then (swageref06_All.l2 k4 a0 x3_4 x4_2 x5_3 (wrap64 (x6_4 + 1))) else ((some (([(⟨x6_4, x5_3⟩ : S27), (⟨wrap64 (-x6_4), x5_3⟩ : S27)] : List (S27)) : List (S27))).bind fun y435 => (if x3_4.length + y435.length < 8796093022208 then (swageref06_All.l2 k4 a0 (x3_4 ++ y435) x4_2 x5_3 (wrap64 (x6_4 + 1))) else (none))))) = some r := H
                            have A11 := Aside0.mk A110
                            clear A110
                            by_cases c12 : (!(t433 == x6_4) || (!(t434 == x5_3))) = true
                            · rw [if_pos c12] at H
                              have c12b0 : (!(t433 == x6_4) || (!(t434 == x5_3))) = true := c12
                              clear c12
                              have H' := Aside0.mk H
                              clear H
                              go_wp2_with (first | (go_at_call 23; (with_reducible refine (swageref06_Norm.calls k4 x6_4 x5_3 t433 t434 _ A11.out).mono ?_); rintro e w13 ⟨rfl, hb⟩; have n0_ := Aside0.mk (Kd.R_below (by (with_reducible repeat (first | apply Kd.R_alloc | apply Kd.R_drewN | apply Kd.R_drew)); exact HO_3.out) hb); have n1_ := Aside0.mk (below_step (by repeat (first | (with_reducible first | exact HB.out | apply below_alloc | apply pw_below_drewN | apply below_drew1) | exact HB.out)) hb); clear HO_3; clear HB; have HO_3 := n0_; have HB := n1_; clear n0_ n1_; (try clear hb); (try clear hb2); (try clear hk); (try clear hi)))
                              go_roundg k4
                              case measure => have := HJ1.out; have := HK2.out; have := HK3.out; have := HK4.out; omega
                              case rel => exact ⟨(x3_4), (wrap64 (x6_4 + 1)), (by first | rfl | (simp; done) | (simp [*]; done)), H', ⟨by have := HJ1.out; have := HK2.out; have := HK3.out; have := HK4.out; omega⟩, ⟨by (with_reducible repeat (first | apply Kd.R_alloc | apply Kd.R_drewN | apply Kd.R_drew)); exact HO_3.out⟩, ⟨by repeat (first | (with_reducible first | exact HB.out | apply below_alloc | apply pw_below_drewN | apply below_drew1) | exact HB.out)⟩⟩
                            · rw [if_neg c12] at H
                              have c12b0 : (!(t433 == x6_4) || (!(t434 == x5_3))) = false := by simpa using c12
                              clear c12
                              by_cases c14 : x5_3 = 0
                              · rw [if_pos c14] at H
                                have c14b0 : (x5_3 == 0) = true := beq_iff_eq.mpr c14
                                have c14b1 : (x5_3 != 0) = false := bne_eq_false_iff_eq.mpr c14
                                clear c14
                                have H' := Aside0.mk H
                                clear H
                                go_wp2_with (first | (go_at_call 23; (with_reducible refine (swageref06_Norm.calls k4 x6_4 x5_3 t433 t434 _ A11.out).mono ?_); rintro e w15 ⟨rfl, hb⟩; have n0_ := Aside0.mk (Kd.R_below (by (with_reducible repeat (first | apply Kd.R_alloc | apply Kd.R_drewN | apply Kd.R_drew)); exact HO_3.out) hb); have n1_ := Aside0.mk (below_step (by repeat (first | (with_reducible first | exact HB.out | apply below_alloc | apply pw_below_drewN | apply below_drew1) | exact HB.out)) hb); clear HO_3; clear HB; have HO_3 := n0_; have HB := n1_; clear n0_ n1_; (try clear hb); (try clear hb2); (try clear hk); (try clear hi)))
                                go_roundg k4
                                case measure => have := HJ1.out; have := HK2.out; have := HK3.out; have := HK4.out; omega
                                case rel => exact ⟨(x3_4), (wrap64 (x6_4 + 1)), (by first | rfl | (simp; done) | (simp [*]; done)), H', ⟨by have := HJ1.out; have := HK2.out; have := HK3.out; have := HK4.out; omega⟩, ⟨by (with_reducible repeat (first | apply Kd.R_alloc | apply Kd.R_drewN | apply Kd.R_drew)); exact HO_3.out⟩, ⟨by repeat (first | (with_reducible first | exact HB.out | apply below_alloc | apply pw_below_drewN | apply below_drew1) | exact HB.out)⟩⟩
                              · rw [if_neg c14] at H
                                have c14b0 : (x5_3 == 0) = false := beq_eq_false_iff_ne.mpr c14
                                have c14b1 : (x5_3 != 0) = true := bne_iff_ne.mpr c14
                                obtain ⟨y435, hy435⟩ : ∃ y_ : List (S27), y_ = (([(⟨x6_4, x5_3⟩ : S27), (⟨wrap64 (-x6_4), x5_3⟩ : S27)] : List (S27))) := ⟨_, rfl⟩
                                replace H : (if x3_4.length + y435.length < 8796093022208 then (swageref06_All.l2 k4 a0 (x3_4 ++ y435) x4_2 x5_3 (wrap64 (x6_4 + 1))) else (none)) = some r := by first | (rw [hy435]; with_reducible exact H) | (have H2_ := (Option.bind_some _ _).symm.trans H; rw [hy435]; with_reducible exact H2_) | (have H2_ := (Option.bind_some _ _).symm.trans H; with_reducible exact H2_) | with_reducible exact H | (rw [hy435]; exact H) | exact H
                                have Ny435 := Aside0.mk hy435
                                clear hy435
                                by_cases c16 : x3_4.length + y435.length < 8796093022208
                                · rw [if_pos c16] at H
                                  have LMc16 := Aside0.mk c16
                                  clear c16
                                  obtain ⟨y438, hy438⟩ : ∃ y_ : List (S27), y_ = (x3_4 ++ y435) := ⟨_, rfl⟩
                                  replace H : (swageref06_All.l2 k4 a0 y438 x4_2 x5_3 (wrap64 (x6_4 + 1))) = some r := by first | (rw [hy438]; with_reducible exact H) | (have H2_ := (Option.bind_some _ _).symm.trans H; rw [hy438]; with_reducible exact H2_) | (have H2_ := (Option.bind_some _ _).symm.trans H; with_reducible exact H2_) | with_reducible exact H | (rw [hy438]; exact H) | exact H
                                  have Ny438 := Aside0.mk hy438
                                  clear hy438
                                  have H' := Aside0.mk H
                                  clear H
                                  go_wp2_with (first | (go_at_call 23; (with_reducible refine (swageref06_Norm.calls k4 x6_4 x5_3 t433 t434 _ A11.out).mono ?_); rintro e w17 ⟨rfl, hb⟩; have n0_ := Aside0.mk (Kd.R_below (by (with_reducible repeat (first | apply Kd.R_alloc | apply Kd.R_drewN | apply Kd.R_drew)); exact HO_3.out) hb); have n1_ := Aside0.mk (below_step (by repeat (first | (with_reducible first | exact HB.out | apply below_alloc | apply pw_below_drewN | apply below_drew1) | exact HB.out)) hb); clear HO_3; clear HB; have HO_3 := n0_; have HB := n1_; clear n0_ n1_; (try clear hb); (try clear hb2); (try clear hk); (try clear hi)) | ((with_reducible refine gate_dst (N := 61) rfl ?_); refine Kd.R_lit k27 _ 27 ?hg (N := 61) ?hd (xs := ([(⟨x6_4, x5_3⟩ : S27), (⟨wrap64 (-x6_4), x5_3⟩ : S27)] : List (S27))) (inner := [.int .i64 x6_4, .int .i64 x5_3, .int .i64 (wrap64 (-x6_4)), .int .i64 x5_3]) (ok := fun _ => True) (okp := fun _ => True) ?hr ?hp (fun _ hk => hk) trivial (Below.refl _ _) (Nat.le_refl _) (by simp) ?_; (case hd => rfl); (case hg => rfl); (case hr => first | (go_simp; done) | (go_simp; rfl)); (case hp => exact (Reps.c2 (show Kd.M k27 _ _ _ (⟨x6_4, x5_3⟩ : S27) [.int .i64 x6_4, .int .i64 x5_3] from (k27_mkM _ _ _ (⟨x6_4, x5_3⟩ : S27) )) (Reps.c2 (show Kd.M k27 _ _ _ (⟨wrap64 (-x6_4), x5_3⟩ : S27) [.int .i64 (wrap64 (-x6_4)), .int .i64 x5_3] from (k27_mkM _ _ _ (⟨wrap64 (-x6_4), x5_3⟩ : S27) )) (Reps.none _ _)))); intro v436 w18 ho19 hb hg_ hnew_; clear hg_ hnew_; (first | rw [← Ny435.out] at ho19 | (simp only [Int.reduceToNat] at ho19; rw [← Ny435.out] at ho19)); have n0_ := Aside0.mk (Kd.R_elder' (by (with_reducible repeat (first | apply Kd.R_alloc | apply Kd.R_drewN | apply Kd.R_drew)); exact HO_3.out) (Kd.R_base ho19) hb); have n1_ := Aside0.mk (Kd.R_lower (Kd.R_new' ho19 (Kd.R_lt (by (with_reducible repeat (first | apply Kd.R_alloc | apply Kd.R_drewN | apply Kd.R_drew)); exact HO_3.out))) (below_size (by repeat (first | (with_reducible first | exact HB.out | apply below_alloc | apply pw_below_drewN | apply below_drew1) | exact HB.out)))); have n2_ := Aside0.mk (below_step (by repeat (first | (with_reducible first | exact HB.out | apply below_alloc | apply pw_below_drewN | apply below_drew1) | exact HB.out)) hb); clear HO_3; clear HB; have HO_3 := n0_; have HO437 := n1_; have HB := n2_; clear n0_ n1_ n2_; clear hb ho19; obtain ⟨Ao21, co21, eo21⟩ := Kd.R_slice HO437.out; subst eo21) | ((with_reducible refine gate_builtin (b := .append) (xs := #[.tmp 53, .tmp 61]) rfl ?_); at_builtin; refine Kd.R_append_rows k27 (w0 := w) w.heap.size rfl (.tmp 53) (.tmp 61) 22 27 (.agg #[(.int .i64 0), (.int .i64 0)]) 16 rfl Tryd.underlying22 info27 rfl (by decide) (by omega) u3 x3_4 y435 _ _ _ (fun k_ => some k_ ≠ (.slice Ao21 y435.length co21 : Value).ownBlock) (fun _ => False) rfl rfl ?aO ?aR (fun _ _ h => h) (fun _ h => h.elim) ?aF ?aB ?aS ?aL ?_; (case aR => repeat (first | exact (Kd.R_reads' HO437.out).2.2 | (with_reducible refine Kd.C_alloc ?_ _) | (with_reducible refine Kd.C_drewN ?_ _) | (with_reducible refine Kd.C_drew ?_))); (case aB => exact (by repeat (first | (with_reducible first | exact HB.out | apply below_alloc | apply pw_below_drewN | apply below_drew1) | exact HB.out))); (case aF => exact (fun k_ hk => Kd.fresh' (Kd.R_lt (by (with_reducible repeat (first | apply Kd.R_alloc | apply Kd.R_drewN | apply Kd.R_drew)); exact HO437.out)) k_ hk)); (case aO => exact (by (with_reducible repeat (first | apply Kd.R_alloc | apply Kd.R_drewN | apply Kd.R_drew)); exact Kd.R_mono HO_3.out (fun _ hk => hk.2))); (case aS => exact (below_size (by repeat (first | (with_reducible first | exact HB.out | apply below_alloc | apply pw_below_drewN | apply below_drew1) | exact HB.out)))); (case aL => have := LMc16.out; omega); intro v439 w20 ho hb hg hat; rw [← Ny438.out] at ho; have n0_ := Aside0.mk (Kd.R_after (ok := (fun _ => True)) (by (with_reducible repeat (first | apply Kd.R_alloc | apply Kd.R_drewN | apply Kd.R_drew)); exact HO437.out) hg hat); have n1_ := Aside0.mk (hb); have n2_ := Aside0.mk (ho); clear HO437; clear HB; clear HO_3; have HO437 := n0_; have HB := n1_; have HO440 := n2_; clear n0_ n1_ n2_; clear ho hb hg hat))
                                  go_roundg k4
                                  case measure => have := HJ1.out; have := HK2.out; have := HK3.out; have := HK4.out; omega
                                  case rel => exact ⟨(y438), (wrap64 (x6_4 + 1)), (by first | rfl | (simp; done) | (simp [*]; done)), H', ⟨by have := HJ1.out; have := HK2.out; have := HK3.out; have := HK4.out; omega⟩, ⟨by (with_reducible repeat (first | apply Kd.R_alloc | apply Kd.R_drewN | apply Kd.R_drew)); exact Kd.R_mono HO440.out (fun _ hk => trivial)⟩, ⟨by repeat (first | (with_reducible first | exact HB.out | apply below_alloc | apply pw_below_drewN | apply below_drew1) | exact HB.out)⟩⟩
                                · rw [if_neg c16] at H
                                  exact absurd H (by simp)
                          · rw [if_neg c10] at H
                            have c10b0 : (x6_4 == x4_2) = false := beq_eq_false_iff_ne.mpr c10
                            have c10b1 : (x6_4 != x4_2) = true := bne_iff_ne.mpr c10
                            by_cases c22 : x5_3 = x4_2
                            · rw [if_pos c22] at H
                              have c22b0 : (x5_3 == x4_2) = true := beq_iff_eq.mpr c22
                              have c22b1 : (x5_3 != x4_2) = false := bne_eq_false_iff_eq.mpr c22
                              clear c22
                              replace H := Option.bind_eq_some_iff.mp H
                              obtain ⟨⟨t441, t442⟩, A230, H⟩ := H
                              replace H : (if (!(t441 == x6_4) || (!(t442 == x5_3))) = true then (swageref06_All.l2 k4 a0 x3_4 x4_2 x5_3 (wrap64 (x6_4 + 1))) else (if x5_3 = 0 then (swageref06_All.l2 k4 a0 x3_4 x4_2 x5_3 (wrap64 (x6_4 + 1))) else ((some (([(⟨x6_4, x5_3⟩ : S27), (⟨wrap64 (-x6_4), x5_3⟩ : S27)] : List (S27)) : List (S27))).bind fun y443 => (if x3_4.length + y443.length < 8796093022208 then (swageref06_All.l2 k4 a0 (x3_4 ++ y443) x4_2 x5_3 (wrap64 (x6_4 + 1))) else (none))))) = some r := H
                              have A23 := Aside0.mk A230
                              clear A230
                              by_cases c24 : (!(t441 == x6_4) || (!(t442 == x5_3))) = true
                              · rw [if_pos c24] at H
                                have c24b0 : (!(t441 == x6_4) || (!(t442 == x5_3))) = true := c24
                                clear c24
                                have H' := Aside0.mk H
                                clear H
                                go_wp2_with (first | (go_at_call 23; (with_reducible refine (swageref06_Norm.calls k4 x6_4 x5_3 t441 t442 _ A23.out).mono ?_); rintro e w25 ⟨rfl, hb⟩; have n0_ := Aside0.mk (Kd.R_below (by (with_reducible repeat (first | apply Kd.R_alloc | apply Kd.R_drewN | apply Kd.R_drew)); exact HO_3.out) hb); have n1_ := Aside0.mk (below_step (by repeat (first | (with_reducible first | exact HB.out | apply below_alloc | apply pw_below_drewN | apply below_drew1) | exact HB.out)) hb); clear HO_3; clear HB; have HO_3 := n0_; have HB := n1_; clear n0_ n1_; (try clear hb); (try clear hb2); (try clear hk); (try clear hi)))
                                go_roundg k4
                                case measure => have := HJ1.out; have := HK2.out; have := HK3.out; have := HK4.out; omega
                                case rel => exact ⟨(x3_4), (wrap64 (x6_4 + 1)), (by first | rfl | (simp; done) | (simp [*]; done)), H', ⟨by have := HJ1.out; have := HK2.out; have := HK3.out; have := HK4.out; omega⟩, ⟨by (with_reducible repeat (first | apply Kd.R_alloc | apply Kd.R_drewN | apply Kd.R_drew)); exact HO_3.out⟩, ⟨by repeat (first | (with_reducible first | exact HB.out | apply below_alloc | apply pw_below_drewN | apply below_drew1) | exact HB.out)⟩⟩
                              · rw [if_neg c24] at H
                                have c24b0 : (!(t441 == x6_4) || (!(t442 == x5_3))) = false := by simpa using c24
                                clear c24
                                by_cases c26 : x5_3 = 0
                                · rw [if_pos c26] at H
                                  have c26b0 : (x5_3 == 0) = true := beq_iff_eq.mpr c26
                                  have c26b1 : (x5_3 != 0) = false := bne_eq_false_iff_eq.mpr c26
                                  clear c26
                                  have H' := Aside0.mk H
                                  clear H
                                  go_wp2_with (first | (go_at_call 23; (with_reducible refine (swageref06_Norm.calls k4 x6_4 x5_3 t441 t442 _ A23.out).mono ?_); rintro e w27 ⟨rfl, hb⟩; have n0_ := Aside0.mk (Kd.R_below (by (with_reducible repeat (first | apply Kd.R_alloc | apply Kd.R_drewN | apply Kd.R_drew)); exact HO_3.out) hb); have n1_ := Aside0.mk (below_step (by repeat (first | (with_reducible first | exact HB.out | apply below_alloc | apply pw_below_drewN | apply below_drew1) | exact HB.out)) hb); clear HO_3; clear HB; have HO_3 := n0_; have HB := n1_; clear n0_ n1_; (try clear hb); (try clear hb2); (try clear hk); (try clear hi)))
                                  go_roundg k4
                                  case measure => have := HJ1.out; have := HK2.out; have := HK3.out; have := HK4.out; omega
                                  case rel => exact ⟨(x3_4), (wrap64 (x6_4 + 1)), (by first | rfl | (simp; done) | (simp [*]; done)), H', ⟨by have := HJ1.out; have := HK2.out; have := HK3.out; have := HK4.out; omega⟩, ⟨by (with_reducible repeat (first | apply Kd.R_alloc | apply Kd.R_drewN | apply Kd.R_drew)); exact HO_3.out⟩, ⟨by repeat (first | (with_reducible first | exact HB.out | apply below_alloc | apply pw_below_drewN | apply below_drew1) | exact HB.out)⟩⟩
                                · rw [if_neg c26] at H
                                  have c26b0 : (x5_3 == 0) = false := beq_eq_false_iff_ne.mpr c26
                                  have c26b1 : (x5_3 != 0) = true := bne_iff_ne.mpr c26
                                  obtain ⟨y443, hy443⟩ : ∃ y_ : List (S27), y_ = (([(⟨x6_4, x5_3⟩ : S27), (⟨wrap64 (-x6_4), x5_3⟩ : S27)] : List (S27))) := ⟨_, rfl⟩
                                  replace H : (if x3_4.length + y443.length < 8796093022208 then (swageref06_All.l2 k4 a0 (x3_4 ++ y443) x4_2 x5_3 (wrap64 (x6_4 + 1))) else (none)) = some r := by first | (rw [hy443]; with_reducible exact H) | (have H2_ := (Option.bind_some _ _).symm.trans H; rw [hy443]; with_reducible exact H2_) | (have H2_ := (Option.bind_some _ _).symm.trans H; with_reducible exact H2_) | with_reducible exact H | (rw [hy443]; exact H) | exact H
                                  have Ny443 := Aside0.mk hy443
                                  clear hy443
                                  by_cases c28 : x3_4.length + y443.length < 8796093022208
                                  · rw [if_pos c28] at H
                                    have LMc28 := Aside0.mk c28
                                    clear c28
                                    obtain ⟨y446, hy446⟩ : ∃ y_ : List (S27), y_ = (x3_4 ++ y443) := ⟨_, rfl⟩
                                    replace H : (swageref06_All.l2 k4 a0 y446 x4_2 x5_3 (wrap64 (x6_4 + 1))) = some r := by first | (rw [hy446]; with_reducible exact H) | (have H2_ := (Option.bind_some _ _).symm.trans H; rw [hy446]; with_reducible exact H2_) | (have H2_ := (Option.bind_some _ _).symm.trans H; with_reducible exact H2_) | with_reducible exact H | (rw [hy446]; exact H) | exact H
                                    have Ny446 := Aside0.mk hy446
                                    clear hy446
                                    have H' := Aside0.mk H
                                    clear H
                                    go_wp2_with (first | (go_at_call 23; (with_reducible refine (swageref06_Norm.calls k4 x6_4 x5_3 t441 t442 _ A23.out).mono ?_); rintro e w29 ⟨rfl, hb⟩; have n0_ := Aside0.mk (Kd.R_below (by (with_reducible repeat (first | apply Kd.R_alloc | apply Kd.R_drewN | apply Kd.R_drew)); exact HO_3.out) hb); have n1_ := Aside0.mk (below_step (by repeat (first | (with_reducible first | exact HB.out | apply below_alloc | apply pw_below_drewN | apply below_drew1) | exact HB.out)) hb); clear HO_3; clear HB; have HO_3 := n0_; have HB := n1_; clear n0_ n1_; (try clear hb); (try clear hb2); (try clear hk); (try clear hi)) | ((with_reducible refine gate_dst (N := 61) rfl ?_); refine Kd.R_lit k27 _ 27 ?hg (N := 61) ?hd (xs := ([(⟨x6_4, x5_3⟩ : S27), (⟨wrap64 (-x6_4), x5_3⟩ : S27)] : List (S27))) (inner := [.int .i64 x6_4, .int .i64 x5_3, .int .i64 (wrap64 (-x6_4)), .int .i64 x5_3]) (ok := fun _ => True) (okp := fun _ => True) ?hr ?hp (fun _ hk => hk) trivial (Below.refl _ _) (Nat.le_refl _) (by simp) ?_; (case hd => rfl); (case hg => rfl); (case hr => first | (go_simp; done) | (go_simp; rfl)); (case hp => exact (Reps.c2 (show Kd.M k27 _ _ _ (⟨x6_4, x5_3⟩ : S27) [.int .i64 x6_4, .int .i64 x5_3] from (k27_mkM _ _ _ (⟨x6_4, x5_3⟩ : S27) )) (Reps.c2 (show Kd.M k27 _ _ _ (⟨wrap64 (-x6_4), x5_3⟩ : S27) [.int .i64 (wrap64 (-x6_4)), .int .i64 x5_3] from (k27_mkM _ _ _ (⟨wrap64 (-x6_4), x5_3⟩ : S27) )) (Reps.none _ _)))); intro v444 w30 ho31 hb hg_ hnew_; clear hg_ hnew_; (first | rw [← Ny443.out] at ho31 | (simp only [Int.reduceToNat] at ho31; rw [← Ny443.out] at ho31)); have n0_ := Aside0.mk (Kd.R_elder' (by (with_reducible repeat (first | apply Kd.R_alloc | apply Kd.R_drewN | apply Kd.R_drew)); exact HO_3.out) (Kd.R_base ho31) hb); have n1_ := Aside0.mk (Kd.R_lower (Kd.R_new' ho31 (Kd.R_lt (by (with_reducible repeat (first | apply Kd.R_alloc | apply Kd.R_drewN | apply Kd.R_drew)); exact HO_3.out))) (below_size (by repeat (first | (with_reducible first | exact HB.out | apply below_alloc | apply pw_below_drewN | apply below_drew1) | exact HB.out)))); have n2_ := Aside0.mk (below_step (by repeat (first | (with_reducible first | exact HB.out | apply below_alloc | apply pw_below_drewN | apply below_drew1) | exact HB.out)) hb); clear HO_3; clear HB; have HO_3 := n0_; have HO445 := n1_; have HB := n2_; clear n0_ n1_ n2_; clear hb ho31; obtain ⟨Ao33, co33, eo33⟩ := Kd.R_slice HO445.out; subst eo33) | ((with_reducible refine gate_builtin (b := .append) (xs := #[.tmp 53, .tmp 61]) rfl ?_); at_builtin; refine Kd.R_append_rows k27 (w0 := w) w.heap.size rfl (.tmp 53) (.tmp 61) 22 27 (.agg #[(.int .i64 0), (.int .i64 0)]) 16 rfl Tryd.underlying22 info27 rfl (by decide) (by omega) u3 x3_4 y443 _ _ _ (fun k_ => some k_ ≠ (.slice Ao33 y443.length co33 : Value).ownBlock) (fun _ => False) rfl rfl ?aO ?aR (fun _ _ h => h) (fun _ h => h.elim) ?aF ?aB ?aS ?aL ?_; (case aR => repeat (first | exact (Kd.R_reads' HO445.out).2.2 | (with_reducible refine Kd.C_alloc ?_ _) | (with_reducible refine Kd.C_drewN ?_ _) | (with_reducible refine Kd.C_drew ?_))); (case aB => exact (by repeat (first | (with_reducible first | exact HB.out | apply below_alloc | apply pw_below_drewN | apply below_drew1) | exact HB.out))); (case aF => exact (fun k_ hk => Kd.fresh' (Kd.R_lt (by (with_reducible repeat (first | apply Kd.R_alloc | apply Kd.R_drewN | apply Kd.R_drew)); exact HO445.out)) k_ hk)); (case aO => exact (by (with_reducible repeat (first | apply Kd.R_alloc | apply Kd.R_drewN | apply Kd.R_drew)); exact Kd.R_mono HO_3.out (fun _ hk => hk.2))); (case aS => exact (below_size (by repeat (first | (with_reducible first | exact HB.out | apply below_alloc | apply pw_below_drewN | apply below_drew1) | exact HB.out)))); (case aL => have := LMc28.out; omega); intro v447 w32 ho hb hg hat; rw [← Ny446.out] at ho; have n0_ := Aside0.mk (Kd.R_after (ok := (fun _ => True)) (by (with_reducible repeat (first | apply Kd.R_alloc | apply Kd.R_drewN | apply Kd.R_drew)); exact HO445.out) hg hat); have n1_ := Aside0.mk (hb); have n2_ := Aside0.mk (ho); clear HO445; clear HB; clear HO_3; have HO445 := n0_; have HB := n1_; have HO448 := n2_; clear n0_ n1_ n2_; clear ho hb hg hat))
                                    go_roundg k4
                                    case measure => have := HJ1.out; have := HK2.out; have := HK3.out; have := HK4.out; omega
                                    case rel => exact ⟨(y446), (wrap64 (x6_4 + 1)), (by first | rfl | (simp; done) | (simp [*]; done)), H', ⟨by have := HJ1.out; have := HK2.out; have := HK3.out; have := HK4.out; omega⟩, ⟨by (with_reducible repeat (first | apply Kd.R_alloc | apply Kd.R_drewN | apply Kd.R_drew)); exact Kd.R_mono HO448.out (fun _ hk => trivial)⟩, ⟨by repeat (first | (with_reducible first | exact HB.out | apply below_alloc | apply pw_below_drewN | apply below_drew1) | exact HB.out)⟩⟩
                                  · rw [if_neg c28] at H
                                    exact absurd H (by simp)
                            · rw [if_neg c22] at H
                              have c22b0 : (x5_3 == x4_2) = false := beq_eq_false_iff_ne.mpr c22
                              have c22b1 : (x5_3 != x4_2) = true := bne_iff_ne.mpr c22
                              have H' := Aside0.mk H
                              clear H
                              go_wp2
                              go_roundg k4
                              case measure => have := HJ1.out; have := HK2.out; have := HK3.out; have := HK4.out; omega
                              case rel => exact ⟨(x3_4), (wrap64 (x6_4 + 1)), (by first | rfl | (simp; done) | (simp [*]; done)), H', ⟨by have := HJ1.out; have := HK2.out; have := HK3.out; have := HK4.out; omega⟩, ⟨by (with_reducible repeat (first | apply Kd.R_alloc | apply Kd.R_drewN | apply Kd.R_drew)); exact HO_3.out⟩, ⟨by repeat (first | (with_reducible first | exact HB.out | apply below_alloc | apply pw_below_drewN | apply below_drew1) | exact HB.out)⟩⟩
                        · rw [if_neg c9] at H
                          have c9b0 : decide (x6_4 ≤ x4_2) = false := decide_eq_false c9
                          clear c9
                          have H' := Aside0.mk H
                          clear H
                          go_wp2
                          go_roundg k4
                          case measure => have := HJ1.out; have := HK2.out; have := HK3.out; have := HK4.out; omega
                          case rel => exact ⟨(x3_4), (wrap64 (x5_3 + 1)), (by first | rfl | (simp; done) | (simp [*]; done)), H', ⟨by have := HJ1.out; have := HK2.out; have := HK3.out; have := HK4.out; omega⟩, ⟨by (with_reducible repeat (first | apply Kd.R_alloc | apply Kd.R_drewN | apply Kd.R_drew)); exact HO_3.out⟩, ⟨by repeat (first | (with_reducible first | exact HB.out | apply below_alloc | apply pw_below_drewN | apply below_drew1) | exact HB.out)⟩⟩
                  · rw [if_neg c8] at H
                    have c8b0 : decide (x5_3 ≤ x4_2) = false := decide_eq_false c8
                    clear c8
                    have H' := Aside0.mk H
                    clear H
                    go_wp2
                    go_roundg k3
                    case measure => have := HJ1.out; have := HK2.out; have := HK3.out; omega
                    case rel => exact ⟨(x3_3), (wrap64 (x4_2 + 1)), (by first | rfl | (simp; done) | (simp [*]; done)), H', ⟨by have := HJ1.out; have := HK2.out; have := HK3.out; omega⟩, ⟨by (with_reducible repeat (first | apply Kd.R_alloc | apply Kd.R_drewN | apply Kd.R_drew)); exact HO_3.out⟩, ⟨by repeat (first | (with_reducible first | exact HB.out | apply below_alloc | apply pw_below_drewN | apply below_drew1) | exact HB.out)⟩⟩
            · rw [if_neg c7] at H
              have c7b0 : decide (x4_2 ≤ a0) = false := decide_eq_false c7
              clear c7
              obtain rfl := Option.some.inj H
              go_wp2
              go_ret
              exact ⟨_, by first | rfl | (simp [errW_none, errW_some] <;> rfl) | (simp [*, errW_none, errW_some] <;> rfl), by (with_reducible repeat (first | apply Kd.R_alloc | apply Kd.R_drewN | apply Kd.R_drew)); exact HO_3.out, by repeat (first | (with_reducible first | exact HB.out | apply below_alloc | apply pw_below_drewN | apply below_drew1) | exact HB.out)⟩

end Go.Proofs.YtfkjmmpolingbaaDoor.XA
end
