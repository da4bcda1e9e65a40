-- mine
import Derived.Test.YtfkjmmpolingbaaXAx0
import Derived.Test.YtfkjmmpolingbaaXAx4
import Derived.Test.YtfkjmmpolingbaaXAx13
import Derived.Test.YtfkjmmpolingbaaXAx14
namespace Go.Proofs.Ytfkjmmpolingbaa.XA
open Go.RowKit Go.Proofs.YtfkjmmpolingbaaW.PrintWords Go.Proofs.YtfkjmmpolingbaaW.PrintLast Go.Proofs.YtfkjmmpolingbaaW.PrintMore
attribute [local go_sem] max2_int min2_int max_two min_two max_three min_three max_four min_four   -- for this text's walks alone
set_option linter.unusedVariables false
set_option linter.unusedSimpArgs false

/-! ### swagelaw06_PointBezout: function 5 -/
def swagelaw06_PointBezout.f (k : Nat) (a0_0 : Int) (a0_1 : Int) : Option (Bool) := (swagelaw06_live.f k).bind fun t208 => (if t208 = true then ((point_Bezout.f k a0_0 a0_1).bind fun bt209 => ((swageref06_In.f a0_0 a0_1).bind fun t213 => (if t213 = true then ((swageref06_Bezout.f k a0_0 a0_1).bind fun bt214 => (if bt209.1 = bt214.1 then (if bt209.2.1 = bt214.2.1 then (if bt209.2.2.1 = bt214.2.2 then (if bt209.2.2.2 = 0 then (if (wrap64 ((wrap64 (bt209.2.1 * a0_0)) + (wrap64 (bt209.2.2.1 * a0_1)))) = bt209.1 then (if bt209.2.1 ≤ 16 then (if bt209.2.1 ≥ (-16) then (if bt209.2.2.1 ≤ 16 then (if bt209.2.2.1 ≥ (-16) then ((swagelaw06_live.f k).bind fun t217 => (some t217)) else (some false)) else (some false)) else (some false)) else (some false)) else (some false)) else (some false)) else (some false)) else (some false)) else (some false))) else (if bt209.1 = 0 then (if bt209.2.1 = 0 then (if bt209.2.2.1 = 0 then (if bt209.2.2.2 = 2 then ((swagelaw06_live.f k).bind fun t218 => (some t218)) else (some false)) else (some false)) else (some false)) else (some false))))) else (some false))
theorem swagelaw06_PointBezout.mono : ∀ a0 a1 k, LeO (swagelaw06_PointBezout.f k a0 a1) (swagelaw06_PointBezout.f (k + 1) a0 a1) := by
  intro a0 a1 k
  unfold swagelaw06_PointBezout.f
  repeat' first
      | (with_reducible exact point_Bezout.mono _ _ _)
      | (with_reducible exact swagelaw06_live.mono _)
      | (with_reducible exact swageref06_Bezout.mono _ _ _)
      | (with_reducible exact LeO.refl _)
      | (with_reducible exact LeO.none _)
      | (with_reducible refine LeO.ite ?_ ?_)
      | (with_reducible refine LeO.bind ?_ (fun _ => ?_))
      | exact point_Bezout.mono _ _ _
      | exact swagelaw06_live.mono _
      | exact swageref06_Bezout.mono _ _ _
      | exact LeO.none _
      | refine LeO.ite ?_ ?_
      | refine LeO.bind ?_ (fun _ => ?_)
set_option maxHeartbeats 8000000 in
set_option maxRecDepth 100000 in
theorem swagelaw06_PointBezout.calls (k : Nat) (a0_0 : Int) (a0_1 : Int) (r : Bool) (w : World) (hT : Aside0 (r = true)) (h : swagelaw06_PointBezout.f k a0_0 a0_1 = some r) :
    Calls Try.prog 5 #[.agg #[.int .i64 a0_0, .int .i64 a0_1]] w fun e w' => e = .returned (.bool r) ∧ Below w.heap.size w w' := by
  have hu23 := Try.underlying23
  have HB := Aside0.mk (Below.refl w.heap.size w)
  have H : ((swagelaw06_live.f k).bind fun t208 => (if t208 = true then ((point_Bezout.f k a0_0 a0_1).bind fun bt209 => ((swageref06_In.f a0_0 a0_1).bind fun t213 => (if t213 = true then ((swageref06_Bezout.f k a0_0 a0_1).bind fun bt214 => (if bt209.1 = bt214.1 then (if bt209.2.1 = bt214.2.1 then (if bt209.2.2.1 = bt214.2.2 then (if bt209.2.2.2 = 0 then (if (wrap64 ((wrap64 (bt209.2.1 * a0_0)) + (wrap64 (bt209.2.2.1 * a0_1)))) = bt209.1 then (if bt209.2.1 ≤ 16 then (if bt209.2.1 ≥ (-16) then (if bt209.2.2.1 ≤ 16 then (if bt209.2.2.1 ≥ (-16) then ((swagelaw06_live.f k).bind fun t217 => (some t217)) else (some false)) else (some false)) else (some false)) else (some false)) else (some false)) else (some false)) else (some false)) else (some false)) else (some false))) else (if bt209.1 = 0 then (if bt209.2.1 = 0 then (if bt209.2.2.1 = 0 then (if bt209.2.2.2 = 2 then ((swagelaw06_live.f k).bind fun t218 => (some t218)) else (some false)) else (some false)) else (some false)) else (some false))))) else (some false))) = some r := h
  clear h
  replace H := Option.bind_eq_some_iff.mp H
  obtain ⟨t208, A20, H⟩ := H
  replace H : (if t208 = true then ((point_Bezout.f k a0_0 a0_1).bind fun bt209 => ((swageref06_In.f a0_0 a0_1).bind fun t213 => (if t213 = true then ((swageref06_Bezout.f k a0_0 a0_1).bind fun bt214 => (if bt209.1 = bt214.1 then (if bt209.2.1 = bt214.2.1 then (if bt209.2.2.1 = bt214.2.2 then (if bt209.2.2.2 = 0 then (if (wrap64 ((wrap64 (bt209.2.1 * a0_0)) + (wrap64 (bt209.2.2.1 * a0_1)))) = bt209.1 then (if bt209.2.1 ≤ 16 then (if bt209.2.1 ≥ (-16) then (if bt209.2.2.1 ≤ 16 then (if bt209.2.2.1 ≥ (-16) then ((swagelaw06_live.f k).bind fun t217 => (some t217)) else (some false)) else (some false)) else (some false)) else (some false)) else (some false)) else (some false)) else (some false)) else (some false)) else (some false))) else (if bt209.1 = 0 then (if bt209.2.1 = 0 then (if bt209.2.2.1 = 0 then (if bt209.2.2.2 = 2 then ((swagelaw06_live.f k).bind fun t218 => (some t218)) else (some false)) else (some false)) else (some false)) else (some false))))) else (some false)) = some r := H
  have A2 := Aside0.mk A20
  clear A20
  by_cases c3 : t208 = true
  · subst c3
    have H1 : ((point_Bezout.f k a0_0 a0_1).bind fun bt209 => ((swageref06_In.f a0_0 a0_1).bind fun t213 => (if t213 = true then ((swageref06_Bezout.f k a0_0 a0_1).bind fun bt214 => (if bt209.1 = bt214.1 then (if bt209.2.1 = bt214.2.1 then (if bt209.2.2.1 = bt214.2.2 then (if bt209.2.2.2 = 0 then (if (wrap64 ((wrap64 (bt209.2.1 * a0_0)) + (wrap64 (bt209.2.2.1 * a0_1)))) = bt209.1 then (if bt209.2.1 ≤ 16 then (if bt209.2.1 ≥ (-16) then (if bt209.2.2.1 ≤ 16 then (if bt209.2.2.1 ≥ (-16) then ((swagelaw06_live.f k).bind fun t217 => (some t217)) else (some false)) else (some false)) else (some false)) else (some false)) else (some false)) else (some false)) else (some false)) else (some false)) else (some false))) else (if bt209.1 = 0 then (if bt209.2.1 = 0 then (if bt209.2.2.1 = 0 then (if bt209.2.2.2 = 2 then ((swagelaw06_live.f k).bind fun t218 => (some t218)) else (some false)) else (some false)) else (some false)) else (some false))))) = some r := by rw [if_pos rfl] at H; exact H
    clear H
    have H := H1
    clear H1
    replace H := Option.bind_eq_some_iff.mp H
    obtain ⟨⟨t209, t210, t211, t212⟩, A40, H⟩ := H
    replace H : ((swageref06_In.f a0_0 a0_1).bind fun t213 => (if t213 = true then ((swageref06_Bezout.f k a0_0 a0_1).bind fun bt214 => (if t209 = bt214.1 then (if t210 = bt214.2.1 then (if t211 = bt214.2.2 then (if t212 = 0 then (if (wrap64 ((wrap64 (t210 * a0_0)) + (wrap64 (t211 * a0_1)))) = t209 then (if t210 ≤ 16 then (if t210 ≥ (-16) then (if t211 ≤ 16 then (if t211 ≥ (-16) then ((swagelaw06_live.f k).bind fun t217 => (some t217)) else (some false)) else (some false)) else (some false)) else (some false)) else (some false)) else (some false)) else (some false)) else (some false)) else (some false))) else (if t209 = 0 then (if t210 = 0 then (if t211 = 0 then (if t212 = 2 then ((swagelaw06_live.f k).bind fun t218 => (some t218)) else (some false)) else (some false)) else (some false)) else (some false)))) = some r := H
    have A4 := Aside0.mk A40
    clear A40
    replace H := Option.bind_eq_some_iff.mp H
    obtain ⟨t213, A50, H⟩ := H
    replace H : (if t213 = true then ((swageref06_Bezout.f k a0_0 a0_1).bind fun bt214 => (if t209 = bt214.1 then (if t210 = bt214.2.1 then (if t211 = bt214.2.2 then (if t212 = 0 then (if (wrap64 ((wrap64 (t210 * a0_0)) + (wrap64 (t211 * a0_1)))) = t209 then (if t210 ≤ 16 then (if t210 ≥ (-16) then (if t211 ≤ 16 then (if t211 ≥ (-16) then ((swagelaw06_live.f k).bind fun t217 => (some t217)) else (some false)) else (some false)) else (some false)) else (some false)) else (some false)) else (some false)) else (some false)) else (some false)) else (some false))) else (if t209 = 0 then (if t210 = 0 then (if t211 = 0 then (if t212 = 2 then ((swagelaw06_live.f k).bind fun t218 => (some t218)) else (some false)) else (some false)) else (some false)) else (some false))) = some r := H
    have A5 := Aside0.mk A50
    clear A50
    by_cases c6 : t213 = true
    · subst c6
      have H1 : ((swageref06_Bezout.f k a0_0 a0_1).bind fun bt214 => (if t209 = bt214.1 then (if t210 = bt214.2.1 then (if t211 = bt214.2.2 then (if t212 = 0 then (if (wrap64 ((wrap64 (t210 * a0_0)) + (wrap64 (t211 * a0_1)))) = t209 then (if t210 ≤ 16 then (if t210 ≥ (-16) then (if t211 ≤ 16 then (if t211 ≥ (-16) then ((swagelaw06_live.f k).bind fun t217 => (some t217)) else (some false)) else (some false)) else (some false)) else (some false)) else (some false)) else (some false)) else (some false)) else (some false)) else (some false))) = some r := by rw [if_pos rfl] at H; exact H
      clear H
      have H := H1
      clear H1
      replace H := Option.bind_eq_some_iff.mp H
      obtain ⟨⟨t214, t215, t216⟩, A70, H⟩ := H
      replace H : (if t209 = t214 then (if t210 = t215 then (if t211 = t216 then (if t212 = 0 then (if (wrap64 ((wrap64 (t210 * a0_0)) + (wrap64 (t211 * a0_1)))) = t209 then (if t210 ≤ 16 then (if t210 ≥ (-16) then (if t211 ≤ 16 then (if t211 ≥ (-16) then ((swagelaw06_live.f k).bind fun t217 => (some t217)) else (some false)) else (some false)) else (some false)) else (some false)) else (some false)) else (some false)) else (some false)) else (some false)) else (some false)) = some r := H
      have A7 := Aside0.mk A70
      clear A70
      by_cases c8 : t209 = t214
      · rw [if_pos c8] at H
        have c8b0 : (t209 == t214) = true := beq_iff_eq.mpr c8
        have c8b1 : (t209 != t214) = false := bne_eq_false_iff_eq.mpr c8
        clear c8
        by_cases c9 : t210 = t215
        · rw [if_pos c9] at H
          have c9b0 : (t210 == t215) = true := beq_iff_eq.mpr c9
          have c9b1 : (t210 != t215) = false := bne_eq_false_iff_eq.mpr c9
          clear c9
          by_cases c10 : t211 = t216
          · rw [if_pos c10] at H
            have c10b0 : (t211 == t216) = true := beq_iff_eq.mpr c10
            have c10b1 : (t211 != t216) = false := bne_eq_false_iff_eq.mpr c10
            clear c10
            by_cases c11 : t212 = 0
            · rw [if_pos c11] at H
              have c11b0 : (t212 == 0) = true := beq_iff_eq.mpr c11
              have c11b1 : (t212 != 0) = false := bne_eq_false_iff_eq.mpr c11
              clear c11
              by_cases c12 : (wrap64 ((wrap64 (t210 * a0_0)) + (wrap64 (t211 * a0_1)))) = t209
              · rw [if_pos c12] at H
                have c12b0 : ((wrap64 ((wrap64 (t210 * a0_0)) + (wrap64 (t211 * a0_1)))) == t209) = true := beq_iff_eq.mpr c12
                have c12b1 : ((wrap64 ((wrap64 (t210 * a0_0)) + (wrap64 (t211 * a0_1)))) != t209) = false := bne_eq_false_iff_eq.mpr c12
                clear c12
                by_cases c13 : t210 ≤ 16
                · rw [if_pos c13] at H
                  have c13b0 : decide (t210 ≤ 16) = true := decide_eq_true c13
                  clear c13
                  by_cases c14 : t210 ≥ (-16)
                  · rw [if_pos c14] at H
                    have c14b0 : decide ((-16) ≤ t210) = true := decide_eq_true c14
                    clear c14
                    by_cases c15 : t211 ≤ 16
                    · rw [if_pos c15] at H
                      have c15b0 : decide (t211 ≤ 16) = true := decide_eq_true c15
                      clear c15
                      by_cases c16 : t211 ≥ (-16)
                      · rw [if_pos c16] at H
                        have c16b0 : decide ((-16) ≤ t211) = true := decide_eq_true c16
                        clear c16
                        replace H := Option.bind_eq_some_iff.mp H
                        obtain ⟨t217, A170, H⟩ := H
                        replace H : (some t217) = some r := H
                        have A17 := Aside0.mk A170
                        clear A170
                        obtain rfl := Option.some.inj H
                        go_enter Try.func5, Try.ntmps5
                        go_wp2_with (first | ((with_reducible refine gate_dst (N := 1) rfl ?_); refine box_event ?hg (N := 1) ?hd (cs := #[.int .i64 a0_0, .int .i64 a0_1]) (t := 23) ?hr ?_; (case hd => rfl); (case hg => rfl); (case hr => first | (go_simp; done) | (go_simp; rfl)); intro gb207 hg w18 hbox hb; have n0_ := Aside0.mk (below_step (by repeat (first | (with_reducible first | exact HB.out | apply below_alloc | apply pw_below_drewN | apply below_drew1) | exact HB.out)) hb); have n1_ := Aside0.mk (hbox); have n2_ := Aside0.mk ((by rw [hg]; exact (below_size (by repeat (first | (with_reducible first | exact HB.out | apply below_alloc | apply pw_below_drewN | apply below_drew1) | exact HB.out))) : w.heap.size ≤ gb207)); have n3_ := Aside0.mk ((by rw [hg]; exact (below_size (by repeat (first | (with_reducible first | exact HB.out | apply below_alloc | apply pw_below_drewN | apply below_drew1) | exact HB.out))) : w.heap.size ≤ gb207)); clear HB; have HB := n0_; have BK207 := n1_; have GW207 := n2_; have GE207 := n3_; clear n0_ n1_ n2_ n3_; clear hb hbox hg) | ((with_reducible refine gate_callee (f := 8) rfl ?_); refine goesL_ (some 10) rfl rfl Try.func8 (by kernel_rfl) rfl #[] rfl (by (try simp only [List.map_toArray, List.map_cons, List.map_nil]); first | done | rfl | (simp only [List.length_drop, List.length_take]; rfl)) ?_; (with_reducible refine (swagelaw06_live.calls k  true _ A2.out).mono ?_); rintro e w19 ⟨rfl, hb⟩; refine ⟨_, rfl, ?_⟩; have n0_ := Aside0.mk (blk_below (g := gb207) (o := .cells #[.int .i64 a0_0, .int .i64 a0_1] 23 (0, 0)) (by (with_reducible repeat (first | refine blk_drewN ?_ _ | refine blk_drew ?_ | refine blk_alloc ?_ _)); exact BK207.out) hb); have n1_ := Aside0.mk (below_step (by repeat (first | (with_reducible first | exact HB.out | apply below_alloc | apply pw_below_drewN | apply below_drew1 | refine below_set ?_ GE207.out) | exact HB.out)) hb); clear BK207; clear HB; have BK207 := n0_; have HB := n1_; clear n0_ n1_; (try clear hb); (try clear hb2); (try clear hk); (try clear hi); have hcz20_0 : w19.cell? ⟨gb207, 0, none⟩ = some (.int .i64 a0_0) := (blk_cell BK207.out 0).trans rfl; have hcz20_1 : w19.cell? ⟨gb207, 1, none⟩ = some (.int .i64 a0_1) := (blk_cell BK207.out 1).trans rfl; have hfz20_0 := blk_frozen BK207.out 0; have hfz20_1 := blk_frozen BK207.out 1) | ((with_reducible refine gate_callee (f := 21) rfl ?_); refine goesL_ (some 14) rfl rfl Try.func21 (by kernel_rfl) rfl #[.agg #[.int .i64 a0_0, .int .i64 a0_1]] rfl (by (try simp only [List.map_toArray, List.map_cons, List.map_nil]); first | done | rfl | (simp only [List.length_drop, List.length_take]; rfl)) ?_; (with_reducible refine (point_Bezout.calls k a0_0 a0_1 t209 t210 t211 t212 _ A4.out).mono ?_); rintro e w21 ⟨rfl, hb⟩; refine ⟨_, rfl, ?_⟩; have n0_ := Aside0.mk (blk_below (g := gb207) (o := .cells #[.int .i64 a0_0, .int .i64 a0_1] 23 (0, 0)) (by (with_reducible repeat (first | refine blk_drewN ?_ _ | refine blk_drew ?_ | refine blk_alloc ?_ _)); exact BK207.out) hb); have n1_ := Aside0.mk (below_step (by repeat (first | (with_reducible first | exact HB.out | apply below_alloc | apply pw_below_drewN | apply below_drew1 | refine below_set ?_ GE207.out) | exact HB.out)) hb); clear BK207; clear HB; have BK207 := n0_; have HB := n1_; clear n0_ n1_; (try clear hb); (try clear hb2); (try clear hk); (try clear hi); have hcz22_0 : w21.cell? ⟨gb207, 0, none⟩ = some (.int .i64 a0_0) := (blk_cell BK207.out 0).trans rfl; have hcz22_1 : w21.cell? ⟨gb207, 1, none⟩ = some (.int .i64 a0_1) := (blk_cell BK207.out 1).trans rfl; have hfz22_0 := blk_frozen BK207.out 0; have hfz22_1 := blk_frozen BK207.out 1) | ((with_reducible refine gate_callee (f := 9) rfl ?_); refine goesL_ (some 20) rfl rfl Try.func9 (by kernel_rfl) rfl #[.agg #[.int .i64 a0_0, .int .i64 a0_1]] rfl (by (try simp only [List.map_toArray, List.map_cons, List.map_nil]); first | done | rfl | (simp only [List.length_drop, List.length_take]; rfl)) ?_; (with_reducible refine (swageref06_In.calls a0_0 a0_1 true _ A5.out).mono ?_); rintro e w23 ⟨rfl, hb⟩; refine ⟨_, rfl, ?_⟩; have n0_ := Aside0.mk (blk_below (g := gb207) (o := .cells #[.int .i64 a0_0, .int .i64 a0_1] 23 (0, 0)) (by (with_reducible repeat (first | refine blk_drewN ?_ _ | refine blk_drew ?_ | refine blk_alloc ?_ _)); exact BK207.out) hb); have n1_ := Aside0.mk (below_step (by repeat (first | (with_reducible first | exact HB.out | apply below_alloc | apply pw_below_drewN | apply below_drew1 | refine below_set ?_ GE207.out) | exact HB.out)) hb); clear BK207; clear HB; have BK207 := n0_; have HB := n1_; clear n0_ n1_; (try clear hb); (try clear hb2); (try clear hk); (try clear hi); have hcz24_0 : w23.cell? ⟨gb207, 0, none⟩ = some (.int .i64 a0_0) := (blk_cell BK207.out 0).trans rfl; have hcz24_1 : w23.cell? ⟨gb207, 1, none⟩ = some (.int .i64 a0_1) := (blk_cell BK207.out 1).trans rfl; have hfz24_0 := blk_frozen BK207.out 0; have hfz24_1 := blk_frozen BK207.out 1) | ((with_reducible refine gate_callee (f := 22) rfl ?_); refine goesL_ (some 41) rfl rfl Try.func22 (by kernel_rfl) rfl #[.agg #[.int .i64 a0_0, .int .i64 a0_1]] rfl (by (try simp only [List.map_toArray, List.map_cons, List.map_nil]); first | done | rfl | (simp only [List.length_drop, List.length_take]; rfl)) ?_; (with_reducible refine (swageref06_Bezout.calls k a0_0 a0_1 t214 t215 t216 _ A7.out).mono ?_); rintro e w25 ⟨rfl, hb⟩; refine ⟨_, rfl, ?_⟩; have n0_ := Aside0.mk (blk_below (g := gb207) (o := .cells #[.int .i64 a0_0, .int .i64 a0_1] 23 (0, 0)) (by (with_reducible repeat (first | refine blk_drewN ?_ _ | refine blk_drew ?_ | refine blk_alloc ?_ _)); exact BK207.out) hb); have n1_ := Aside0.mk (below_step (by repeat (first | (with_reducible first | exact HB.out | apply below_alloc | apply pw_below_drewN | apply below_drew1 | refine below_set ?_ GE207.out) | exact HB.out)) hb); clear BK207; clear HB; have BK207 := n0_; have HB := n1_; clear n0_ n1_; (try clear hb); (try clear hb2); (try clear hk); (try clear hi); have hcz26_0 : w25.cell? ⟨gb207, 0, none⟩ = some (.int .i64 a0_0) := (blk_cell BK207.out 0).trans rfl; have hcz26_1 : w25.cell? ⟨gb207, 1, none⟩ = some (.int .i64 a0_1) := (blk_cell BK207.out 1).trans rfl; have hfz26_0 := blk_frozen BK207.out 0; have hfz26_1 := blk_frozen BK207.out 1) | (go_at_call 8; (with_reducible refine (swagelaw06_live.calls k  t217 _ A17.out).mono ?_); rintro e w27 ⟨rfl, hb⟩; have n0_ := Aside0.mk (blk_below (g := gb207) (o := .cells #[.int .i64 a0_0, .int .i64 a0_1] 23 (0, 0)) (by (with_reducible repeat (first | refine blk_drewN ?_ _ | refine blk_drew ?_ | refine blk_alloc ?_ _)); exact BK207.out) hb); have n1_ := Aside0.mk (below_step (by repeat (first | (with_reducible first | exact HB.out | apply below_alloc | apply pw_below_drewN | apply below_drew1 | refine below_set ?_ GE207.out) | exact HB.out)) hb); clear BK207; clear HB; have BK207 := n0_; have HB := n1_; clear n0_ n1_; (try clear hb); (try clear hb2); (try clear hk); (try clear hi)))
                        go_ret
                        exact ⟨by first | rfl | (simp [errW_none, errW_some] <;> rfl) | (simp [*, errW_none, errW_some] <;> rfl), by repeat (first | (with_reducible first | exact HB.out | apply below_alloc | apply pw_below_drewN | apply below_drew1 | refine below_set ?_ GE207.out) | exact HB.out)⟩
                      · rw [if_neg c16] at H
                        have c16b0 : decide ((-16) ≤ t211) = false := decide_eq_false c16
                        clear c16
                        obtain rfl := Option.some.inj H
                        exact absurd hT.out (by simp)
                    · rw [if_neg c15] at H
                      have c15b0 : decide (t211 ≤ 16) = false := decide_eq_false c15
                      clear c15
                      obtain rfl := Option.some.inj H
                      exact absurd hT.out (by simp)
                  · rw [if_neg c14] at H
                    have c14b0 : decide ((-16) ≤ t210) = false := decide_eq_false c14
                    clear c14
                    obtain rfl := Option.some.inj H
                    exact absurd hT.out (by simp)
                · rw [if_neg c13] at H
                  have c13b0 : decide (t210 ≤ 16) = false := decide_eq_false c13
                  clear c13
                  obtain rfl := Option.some.inj H
                  exact absurd hT.out (by simp)
              · rw [if_neg c12] at H
                have c12b0 : ((wrap64 ((wrap64 (t210 * a0_0)) + (wrap64 (t211 * a0_1)))) == t209) = false := beq_eq_false_iff_ne.mpr c12
                have c12b1 : ((wrap64 ((wrap64 (t210 * a0_0)) + (wrap64 (t211 * a0_1)))) != t209) = true := bne_iff_ne.mpr c12
                obtain rfl := Option.some.inj H
                exact absurd hT.out (by simp)
            · rw [if_neg c11] at H
              have c11b0 : (t212 == 0) = false := beq_eq_false_iff_ne.mpr c11
              have c11b1 : (t212 != 0) = true := bne_iff_ne.mpr c11
              obtain rfl := Option.some.inj H
              exact absurd hT.out (by simp)
          · rw [if_neg c10] at H
            have c10b0 : (t211 == t216) = false := beq_eq_false_iff_ne.mpr c10
            have c10b1 : (t211 != t216) = true := bne_iff_ne.mpr c10
            obtain rfl := Option.some.inj H
            exact absurd hT.out (by simp)
        · rw [if_neg c9] at H
          have c9b0 : (t210 == t215) = false := beq_eq_false_iff_ne.mpr c9
          have c9b1 : (t210 != t215) = true := bne_iff_ne.mpr c9
          obtain rfl := Option.some.inj H
          exact absurd hT.out (by simp)
      · rw [if_neg c8] at H
        have c8b0 : (t209 == t214) = false := beq_eq_false_iff_ne.mpr c8
        have c8b1 : (t209 != t214) = true := bne_iff_ne.mpr c8
        obtain rfl := Option.some.inj H
        exact absurd hT.out (by simp)
    · replace c6 := Bool.eq_false_iff.mpr c6
      subst c6
      have H1 : (if t209 = 0 then (if t210 = 0 then (if t211 = 0 then (if t212 = 2 then ((swagelaw06_live.f k).bind fun t218 => (some t218)) else (some false)) else (some false)) else (some false)) else (some false)) = some r := by rw [if_neg (show ¬ (false = true) by decide)] at H; exact H
      clear H
      have H := H1
      clear H1
      by_cases c28 : t209 = 0
      · rw [if_pos c28] at H
        have c28b0 : (t209 == 0) = true := beq_iff_eq.mpr c28
        have c28b1 : (t209 != 0) = false := bne_eq_false_iff_eq.mpr c28
        clear c28
        by_cases c29 : t210 = 0
        · rw [if_pos c29] at H
          have c29b0 : (t210 == 0) = true := beq_iff_eq.mpr c29
          have c29b1 : (t210 != 0) = false := bne_eq_false_iff_eq.mpr c29
          clear c29
          by_cases c30 : t211 = 0
          · rw [if_pos c30] at H
            have c30b0 : (t211 == 0) = true := beq_iff_eq.mpr c30
            have c30b1 : (t211 != 0) = false := bne_eq_false_iff_eq.mpr c30
            clear c30
            by_cases c31 : t212 = 2
            · rw [if_pos c31] at H
              have c31b0 : (t212 == 2) = true := beq_iff_eq.mpr c31
              have c31b1 : (t212 != 2) = false := bne_eq_false_iff_eq.mpr c31
              clear c31
              replace H := Option.bind_eq_some_iff.mp H
              obtain ⟨t218, A320, H⟩ := H
              replace H : (some t218) = some r := H
              have A32 := Aside0.mk A320
              clear A320
              obtain rfl := Option.some.inj H
              go_enter Try.func5, Try.ntmps5
              go_wp2_with (first | ((with_reducible refine gate_dst (N := 1) rfl ?_); refine box_event ?hg (N := 1) ?hd (cs := #[.int .i64 a0_0, .int .i64 a0_1]) (t := 23) ?hr ?_; (case hd => rfl); (case hg => rfl); (case hr => first | (go_simp; done) | (go_simp; rfl)); intro gb207 hg w33 hbox hb; have n0_ := Aside0.mk (below_step (by repeat (first | (with_reducible first | exact HB.out | apply below_alloc | apply pw_below_drewN | apply below_drew1) | exact HB.out)) hb); have n1_ := Aside0.mk (hbox); have n2_ := Aside0.mk ((by rw [hg]; exact (below_size (by repeat (first | (with_reducible first | exact HB.out | apply below_alloc | apply pw_below_drewN | apply below_drew1) | exact HB.out))) : w.heap.size ≤ gb207)); have n3_ := Aside0.mk ((by rw [hg]; exact (below_size (by repeat (first | (with_reducible first | exact HB.out | apply below_alloc | apply pw_below_drewN | apply below_drew1) | exact HB.out))) : w.heap.size ≤ gb207)); clear HB; have HB := n0_; have BK207 := n1_; have GW207 := n2_; have GE207 := n3_; clear n0_ n1_ n2_ n3_; clear hb hbox hg) | ((with_reducible refine gate_callee (f := 8) rfl ?_); refine goesL_ (some 10) rfl rfl Try.func8 (by kernel_rfl) rfl #[] rfl (by (try simp only [List.map_toArray, List.map_cons, List.map_nil]); first | done | rfl | (simp only [List.length_drop, List.length_take]; rfl)) ?_; (with_reducible refine (swagelaw06_live.calls k  true _ A2.out).mono ?_); rintro e w34 ⟨rfl, hb⟩; refine ⟨_, rfl, ?_⟩; have n0_ := Aside0.mk (blk_below (g := gb207) (o := .cells #[.int .i64 a0_0, .int .i64 a0_1] 23 (0, 0)) (by (with_reducible repeat (first | refine blk_drewN ?_ _ | refine blk_drew ?_ | refine blk_alloc ?_ _)); exact BK207.out) hb); have n1_ := Aside0.mk (below_step (by repeat (first | (with_reducible first | exact HB.out | apply below_alloc | apply pw_below_drewN | apply below_drew1 | refine below_set ?_ GE207.out) | exact HB.out)) hb); clear BK207; clear HB; have BK207 := n0_; have HB := n1_; clear n0_ n1_; (try clear hb); (try clear hb2); (try clear hk); (try clear hi); have hcz35_0 : w34.cell? ⟨gb207, 0, none⟩ = some (.int .i64 a0_0) := (blk_cell BK207.out 0).trans rfl; have hcz35_1 : w34.cell? ⟨gb207, 1, none⟩ = some (.int .i64 a0_1) := (blk_cell BK207.out 1).trans rfl; have hfz35_0 := blk_frozen BK207.out 0; have hfz35_1 := blk_frozen BK207.out 1) | ((with_reducible refine gate_callee (f := 21) rfl ?_); refine goesL_ (some 14) rfl rfl Try.func21 (by kernel_rfl) rfl #[.agg #[.int .i64 a0_0, .int .i64 a0_1]] rfl (by (try simp only [List.map_toArray, List.map_cons, List.map_nil]); first | done | rfl | (simp only [List.length_drop, List.length_take]; rfl)) ?_; (with_reducible refine (point_Bezout.calls k a0_0 a0_1 t209 t210 t211 t212 _ A4.out).mono ?_); rintro e w36 ⟨rfl, hb⟩; refine ⟨_, rfl, ?_⟩; have n0_ := Aside0.mk (blk_below (g := gb207) (o := .cells #[.int .i64 a0_0, .int .i64 a0_1] 23 (0, 0)) (by (with_reducible repeat (first | refine blk_drewN ?_ _ | refine blk_drew ?_ | refine blk_alloc ?_ _)); exact BK207.out) hb); have n1_ := Aside0.mk (below_step (by repeat (first | (with_reducible first | exact HB.out | apply below_alloc | apply pw_below_drewN | apply below_drew1 | refine below_set ?_ GE207.out) | exact HB.out)) hb); clear BK207; clear HB; have BK207 := n0_; have HB := n1_; clear n0_ n1_; (try clear hb); (try clear hb2); (try clear hk); (try clear hi); have hcz37_0 : w36.cell? ⟨gb207, 0, none⟩ = some (.int .i64 a0_0) := (blk_cell BK207.out 0).trans rfl; have hcz37_1 : w36.cell? ⟨gb207, 1, none⟩ = some (.int .i64 a0_1) := (blk_cell BK207.out 1).trans rfl; have hfz37_0 := blk_frozen BK207.out 0; have hfz37_1 := blk_frozen BK207.out 1) | ((with_reducible refine gate_callee (f := 9) rfl ?_); refine goesL_ (some 20) rfl rfl Try.func9 (by kernel_rfl) rfl #[.agg #[.int .i64 a0_0, .int .i64 a0_1]] rfl (by (try simp only [List.map_toArray, List.map_cons, List.map_nil]); first | done | rfl | (simp only [List.length_drop, List.length_take]; rfl)) ?_; (with_reducible refine (swageref06_In.calls a0_0 a0_1 false _ A5.out).mono ?_); rintro e w38 ⟨rfl, hb⟩; refine ⟨_, rfl, ?_⟩; have n0_ := Aside0.mk (blk_below (g := gb207) (o := .cells #[.int .i64 a0_0, .int .i64 a0_1] 23 (0, 0)) (by (with_reducible repeat (first | refine blk_drewN ?_ _ | refine blk_drew ?_ | refine blk_alloc ?_ _)); exact BK207.out) hb); have n1_ := Aside0.mk (below_step (by repeat (first | (with_reducible first | exact HB.out | apply below_alloc | apply pw_below_drewN | apply below_drew1 | refine below_set ?_ GE207.out) | exact HB.out)) hb); clear BK207; clear HB; have BK207 := n0_; have HB := n1_; clear n0_ n1_; (try clear hb); (try clear hb2); (try clear hk); (try clear hi)) | (go_at_call 8; (with_reducible refine (swagelaw06_live.calls k  t218 _ A32.out).mono ?_); rintro e w39 ⟨rfl, hb⟩; have n0_ := Aside0.mk (blk_below (g := gb207) (o := .cells #[.int .i64 a0_0, .int .i64 a0_1] 23 (0, 0)) (by (with_reducible repeat (first | refine blk_drewN ?_ _ | refine blk_drew ?_ | refine blk_alloc ?_ _)); exact BK207.out) hb); have n1_ := Aside0.mk (below_step (by repeat (first | (with_reducible first | exact HB.out | apply below_alloc | apply pw_below_drewN | apply below_drew1 | refine below_set ?_ GE207.out) | exact HB.out)) hb); clear BK207; clear HB; have BK207 := n0_; have HB := n1_; clear n0_ n1_; (try clear hb); (try clear hb2); (try clear hk); (try clear hi)))
              go_ret
              exact ⟨by first | rfl | (simp [errW_none, errW_some] <;> rfl) | (simp [*, errW_none, errW_some] <;> rfl), by repeat (first | (with_reducible first | exact HB.out | apply below_alloc | apply pw_below_drewN | apply below_drew1 | refine below_set ?_ GE207.out) | exact HB.out)⟩
            · rw [if_neg c31] at H
              have c31b0 : (t212 == 2) = false := beq_eq_false_iff_ne.mpr c31
              have c31b1 : (t212 != 2) = true := bne_iff_ne.mpr c31
              obtain rfl := Option.some.inj H
              exact absurd hT.out (by simp)
          · rw [if_neg c30] at H
            have c30b0 : (t211 == 0) = false := beq_eq_false_iff_ne.mpr c30
            have c30b1 : (t211 != 0) = true := bne_iff_ne.mpr c30
            obtain rfl := Option.some.inj H
            exact absurd hT.out (by simp)
        · rw [if_neg c29] at H
          have c29b0 : (t210 == 0) = false := beq_eq_false_iff_ne.mpr c29
          have c29b1 : (t210 != 0) = true := bne_iff_ne.mpr c29
          obtain rfl := Option.some.inj H
          exact absurd hT.out (by simp)
      · rw [if_neg c28] at H
        have c28b0 : (t209 == 0) = false := beq_eq_false_iff_ne.mpr c28
        have c28b1 : (t209 != 0) = true := bne_iff_ne.mpr c28
        obtain rfl := Option.some.inj H
        exact absurd hT.out (by simp)
  · replace c3 := Bool.eq_false_iff.mpr c3
    subst c3
    have H1 : (some false) = some r := by rw [if_neg (show ¬ (false = true) by decide)] at H; exact H
    clear H
    have H := H1
    clear H1
    obtain rfl := Option.some.inj H
    exact absurd hT.out (by simp)

end Go.Proofs.Ytfkjmmpolingbaa.XA
