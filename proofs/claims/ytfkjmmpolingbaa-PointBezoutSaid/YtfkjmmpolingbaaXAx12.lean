-- mine
import Derived.Test.YtfkjmmpolingbaaXAx0
import Derived.Test.YtfkjmmpolingbaaXAx4
import Derived.Test.YtfkjmmpolingbaaXAx10
import Derived.Test.YtfkjmmpolingbaaXAx11
namespace Go.Proofs.Ytfkjmmpolingbaa.XA
open Go.RowKit Go.Proofs.YtfkjmmpolingbaaW.PrintWords Go.Proofs.YtfkjmmpolingbaaW.PrintLast Go.Proofs.YtfkjmmpolingbaaW.PrintMore
attribute [local go_sem] max2_int min2_int max_two min_two max_three min_three max_four min_four   -- for this text's walks alone
set_option linter.unusedVariables false
set_option linter.unusedSimpArgs false

/-! ### swagelaw06_PointTwins: function 4 -/
def swagelaw06_PointTwins.f (k : Nat) (l0 : List (S23)) : Option (Bool) := (swagelaw06_live.f k).bind fun t194 => (if t194 = true then (if (l0.length : Int) > 300 then (some true) else ((point_Twins.f k l0).bind fun bt195 => ((swageref06_Twins.f k l0).bind fun bt198 => (if bt195.1 = bt198.1 then (if bt195.2.1 = bt198.2.1 then (if (bt195.2.2 == bt198.2.2) = true then ((swagelaw06_live.f k).bind fun t201 => (some t201)) else (some false)) else (some false)) else (some false))))) else (some false))
theorem swagelaw06_PointTwins.mono : ∀ a0 k, LeO (swagelaw06_PointTwins.f k a0) (swagelaw06_PointTwins.f (k + 1) a0) := by
  intro a0 k
  unfold swagelaw06_PointTwins.f
  repeat' first
      | (with_reducible exact point_Twins.mono _ _)
      | (with_reducible exact swagelaw06_live.mono _)
      | (with_reducible exact swageref06_Twins.mono _ _)
      | (with_reducible exact LeO.refl _)
      | (with_reducible exact LeO.none _)
      | (with_reducible refine LeO.ite ?_ ?_)
      | (with_reducible refine LeO.bind ?_ (fun _ => ?_))
      | exact point_Twins.mono _ _
      | exact swagelaw06_live.mono _
      | exact swageref06_Twins.mono _ _
      | exact LeO.none _
      | refine LeO.ite ?_ ?_
      | refine LeO.bind ?_ (fun _ => ?_)
set_option maxHeartbeats 8000000 in
set_option maxRecDepth 100000 in
theorem swagelaw06_PointTwins.calls (k : Nat) (A0 : Option Addr) (c0 : Nat) (l0 : List (S23)) (r : Bool) (w : World) (hr0 : Kd.C k23 w A0 l0.length l0) (hc0 : l0.length ≤ c0) (hT : Aside0 (r = true)) (h : swagelaw06_PointTwins.f k l0 = some r) :
    Calls Try.prog 4 #[.slice A0 l0.length c0] w fun e w' => e = .returned (.bool r) ∧ Below w.heap.size w w' := by
  have HR0 := Aside0.mk hr0
  have HC0 := Aside0.mk hc0
  clear hr0 hc0
  have HB := Aside0.mk (Below.refl w.heap.size w)
  have H : ((swagelaw06_live.f k).bind fun t194 => (if t194 = true then (if (l0.length : Int) > 300 then (some true) else ((point_Twins.f k l0).bind fun bt195 => ((swageref06_Twins.f k l0).bind fun bt198 => (if bt195.1 = bt198.1 then (if bt195.2.1 = bt198.2.1 then (if (bt195.2.2 == bt198.2.2) = true then ((swagelaw06_live.f k).bind fun t201 => (some t201)) else (some false)) else (some false)) else (some false))))) else (some false))) = some r := h
  clear h
  replace H := Option.bind_eq_some_iff.mp H
  obtain ⟨t194, A20, H⟩ := H
  replace H : (if t194 = true then (if (l0.length : Int) > 300 then (some true) else ((point_Twins.f k l0).bind fun bt195 => ((swageref06_Twins.f k l0).bind fun bt198 => (if bt195.1 = bt198.1 then (if bt195.2.1 = bt198.2.1 then (if (bt195.2.2 == bt198.2.2) = true then ((swagelaw06_live.f k).bind fun t201 => (some t201)) else (some false)) else (some false)) else (some false))))) else (some false)) = some r := H
  have A2 := Aside0.mk A20
  clear A20
  by_cases c3 : t194 = true
  · subst c3
    have H1 : (if (l0.length : Int) > 300 then (some true) else ((point_Twins.f k l0).bind fun bt195 => ((swageref06_Twins.f k l0).bind fun bt198 => (if bt195.1 = bt198.1 then (if bt195.2.1 = bt198.2.1 then (if (bt195.2.2 == bt198.2.2) = true then ((swagelaw06_live.f k).bind fun t201 => (some t201)) else (some false)) else (some false)) else (some false))))) = some r := by rw [if_pos rfl] at H; exact H
    clear H
    have H := H1
    clear H1
    by_cases c4 : (l0.length : Int) > 300
    · rw [if_pos c4] at H
      have c4b0 : decide (300 < (l0.length : Int)) = true := decide_eq_true c4
      have c4b1 : decide (300 < l0.length) = true := decide_eq_true (by omega)
      clear c4
      obtain rfl := Option.some.inj H
      go_enter Try.func4, Try.ntmps4
      go_wp2_with (first | ((with_reducible refine gate_callee (f := 8) rfl ?_); refine goesL_ (some 9) rfl rfl Try.func8 (by kernel_rfl) rfl #[] rfl (by (try simp only [List.map_toArray, List.map_cons, List.map_nil]); first | done | rfl | (simp only [List.length_drop, List.length_take]; rfl)) ?_; (with_reducible refine (swagelaw06_live.calls k  true _ A2.out).mono ?_); rintro e w5 ⟨rfl, hb⟩; refine ⟨_, rfl, ?_⟩; have n0_ := Aside0.mk (below_step (by repeat (first | (with_reducible first | exact HB.out | apply below_alloc | apply pw_below_drewN | apply below_drew1) | exact HB.out)) hb); clear HB; have HB := n0_; clear n0_; (try clear hb); (try clear hb2); (try clear hk); (try clear hi)))
      go_ret
      exact ⟨by first | rfl | (simp [errW_none, errW_some] <;> rfl) | (simp [*, errW_none, errW_some] <;> rfl), by repeat (first | (with_reducible first | exact HB.out | apply below_alloc | apply pw_below_drewN | apply below_drew1) | exact HB.out)⟩
    · rw [if_neg c4] at H
      have c4b0 : decide (300 < (l0.length : Int)) = false := decide_eq_false c4
      have c4b1 : decide (300 < l0.length) = false := decide_eq_false (by omega)
      clear c4
      replace H := Option.bind_eq_some_iff.mp H
      obtain ⟨⟨t195, t196, t197⟩, A60, H⟩ := H
      replace H : ((swageref06_Twins.f k l0).bind fun bt198 => (if t195 = bt198.1 then (if t196 = bt198.2.1 then (if (t197 == bt198.2.2) = true then ((swagelaw06_live.f k).bind fun t201 => (some t201)) else (some false)) else (some false)) else (some false))) = some r := H
      have A6 := Aside0.mk A60
      clear A60
      replace H := Option.bind_eq_some_iff.mp H
      obtain ⟨⟨t198, t199, t200⟩, A70, H⟩ := H
      replace H : (if t195 = t198 then (if t196 = t199 then (if (t197 == t200) = true then ((swagelaw06_live.f k).bind fun t201 => (some t201)) else (some false)) else (some false)) else (some false)) = some r := H
      have A7 := Aside0.mk A70
      clear A70
      by_cases c8 : t195 = t198
      · rw [if_pos c8] at H
        have c8b0 : (t195 == t198) = true := beq_iff_eq.mpr c8
        have c8b1 : (t195 != t198) = false := bne_eq_false_iff_eq.mpr c8
        clear c8
        by_cases c9 : t196 = t199
        · rw [if_pos c9] at H
          have c9b0 : (t196 == t199) = true := beq_iff_eq.mpr c9
          have c9b1 : (t196 != t199) = false := bne_eq_false_iff_eq.mpr c9
          clear c9
          by_cases c10 : (t197 == t200) = true
          · rw [if_pos c10] at H
            have c10b0 : (t197 == t200) = true := c10
            (try (have c10b1 : decide (t197 = t200) = true := by simpa using c10))
            (try (have c10b2 : (t197 == t200) = true := by simpa using c10))
            clear c10
            replace H := Option.bind_eq_some_iff.mp H
            obtain ⟨t201, A110, H⟩ := H
            replace H : (some t201) = some r := H
            have A11 := Aside0.mk A110
            clear A110
            obtain rfl := Option.some.inj H
            go_enter Try.func4, Try.ntmps4
            go_wp2_with (first | ((with_reducible refine gate_callee (f := 8) rfl ?_); refine goesL_ (some 9) rfl rfl Try.func8 (by kernel_rfl) rfl #[] rfl (by (try simp only [List.map_toArray, List.map_cons, List.map_nil]); first | done | rfl | (simp only [List.length_drop, List.length_take]; rfl)) ?_; (with_reducible refine (swagelaw06_live.calls k  true _ A2.out).mono ?_); rintro e w12 ⟨rfl, hb⟩; refine ⟨_, rfl, ?_⟩; have n0_ := Aside0.mk (below_step (by repeat (first | (with_reducible first | exact HB.out | apply below_alloc | apply pw_below_drewN | apply below_drew1) | exact HB.out)) hb); clear HB; have HB := n0_; clear n0_; (try clear hb); (try clear hb2); (try clear hk); (try clear hi)) | ((with_reducible refine gate_callee (f := 19) rfl ?_); refine goesL_ (some 16) rfl rfl Try.func19 (by kernel_rfl) rfl #[.slice A0 l0.length c0] rfl (by (try simp only [List.map_toArray, List.map_cons, List.map_nil]); first | done | rfl | (simp only [List.length_drop, List.length_take]; rfl)) ?_; (with_reducible refine (point_Twins.calls k _ _ l0 t195 t196 t197 _ ?side1 ?side2 A6.out).mono ?_); (case side1 => repeat (first | exact (Kd.C_below HR0.out HB.out) | (with_reducible refine Kd.C_alloc ?_ _) | (with_reducible refine Kd.C_drewN ?_ _) | (with_reducible refine Kd.C_drew ?_))); (case side2 => exact HC0.out); rintro e w13 ⟨rfl, hb⟩; refine ⟨_, rfl, ?_⟩; have n0_ := Aside0.mk (below_step (by repeat (first | (with_reducible first | exact HB.out | apply below_alloc | apply pw_below_drewN | apply below_drew1) | exact HB.out)) hb); clear HB; have HB := n0_; clear n0_; (try clear hb); (try clear hb2); (try clear hk); (try clear hi)) | ((with_reducible refine gate_callee (f := 20) rfl ?_); refine goesL_ (some 22) rfl rfl Try.func20 (by kernel_rfl) rfl #[.slice A0 l0.length c0] rfl (by (try simp only [List.map_toArray, List.map_cons, List.map_nil]); first | done | rfl | (simp only [List.length_drop, List.length_take]; rfl)) ?_; (with_reducible refine (swageref06_Twins.calls k _ _ l0 t198 t199 t200 _ ?side1 ?side2 A7.out).mono ?_); (case side1 => repeat (first | exact (Kd.C_below HR0.out HB.out) | (with_reducible refine Kd.C_alloc ?_ _) | (with_reducible refine Kd.C_drewN ?_ _) | (with_reducible refine Kd.C_drew ?_))); (case side2 => exact HC0.out); rintro e w14 ⟨rfl, hb⟩; refine ⟨_, rfl, ?_⟩; have n0_ := Aside0.mk (below_step (by repeat (first | (with_reducible first | exact HB.out | apply below_alloc | apply pw_below_drewN | apply below_drew1) | exact HB.out)) hb); clear HB; have HB := n0_; clear n0_; (try clear hb); (try clear hb2); (try clear hk); (try clear hi)) | (go_at_call 8; (with_reducible refine (swagelaw06_live.calls k  t201 _ A11.out).mono ?_); rintro e w15 ⟨rfl, hb⟩; have n0_ := Aside0.mk (below_step (by repeat (first | (with_reducible first | exact HB.out | apply below_alloc | apply pw_below_drewN | apply below_drew1) | exact HB.out)) hb); clear HB; have HB := n0_; clear n0_; (try clear hb); (try clear hb2); (try clear hk); (try clear hi)))
            go_ret
            exact ⟨by first | rfl | (simp [errW_none, errW_some] <;> rfl) | (simp [*, errW_none, errW_some] <;> rfl), by repeat (first | (with_reducible first | exact HB.out | apply below_alloc | apply pw_below_drewN | apply below_drew1) | exact HB.out)⟩
          · rw [if_neg c10] at H
            have c10b0 : (t197 == t200) = false := by simpa using c10
            (try (have c10b1 : decide (t197 = t200) = false := by simpa using c10))
            (try (have c10b2 : (t197 == t200) = false := by simpa using c10))
            (try (have c10b3 : ¬ (t197 = t200) := by simpa using c10))
            clear c10
            obtain rfl := Option.some.inj H
            exact absurd hT.out (by simp)
        · rw [if_neg c9] at H
          have c9b0 : (t196 == t199) = false := beq_eq_false_iff_ne.mpr c9
          have c9b1 : (t196 != t199) = true := bne_iff_ne.mpr c9
          obtain rfl := Option.some.inj H
          exact absurd hT.out (by simp)
      · rw [if_neg c8] at H
        have c8b0 : (t195 == t198) = false := beq_eq_false_iff_ne.mpr c8
        have c8b1 : (t195 != t198) = true := bne_iff_ne.mpr c8
        obtain rfl := Option.some.inj H
        exact absurd hT.out (by simp)
  · replace c3 := Bool.eq_false_iff.mpr c3
    subst c3
    have H1 : (some false) = some r := by rw [if_neg (show ¬ (false = true) by decide)] at H; exact H
    clear H
    have H := H1
    clear H1
    obtain rfl := Option.some.inj H
    exact absurd hT.out (by simp)

end Go.Proofs.Ytfkjmmpolingbaa.XA
