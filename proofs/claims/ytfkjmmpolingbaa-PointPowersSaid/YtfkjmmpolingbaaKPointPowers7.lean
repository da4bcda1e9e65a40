/- Part 7 of the proof of the law PointPowers for every input: words, walks and plain laws. No condition. -/
import Derived.DataReads
import Derived.ChangeArms
import Derived.SizedLaws
import Derived.WideShapes
import Derived.ChangeSlices
import Derived.RowKit
import Derived.Test.YtfkjmmpolingbaaKPointPowers6
section
namespace Go.Proofs.Ytfkjmmpolingbaa.XA
open Go.RowKit Go.Proofs.YtfkjmmpolingbaaW.PrintWords Go.Proofs.YtfkjmmpolingbaaW.PrintLast Go.Proofs.YtfkjmmpolingbaaW.PrintMore
attribute [local go_sem] max2_int min2_int max_two min_two max_three min_three max_four min_four   -- for this text's walks alone
set_option linter.unusedVariables false
set_option linter.unusedSimpArgs false

/-! ### swagelaw06_PointPowers: function 7 -/
mutual
def swagelaw06_PointPowers.j0 : Nat → Int → Int → List (S57) → Int → Bool → Int → Int → Option (Bool)
  | 0, _, _, _, _, _, _, _ => none
  | k + 1, x1, x2, x7, x8, x34, x496000, x496001 => if x34 = true then (if (x7.length : Int) = 0 then (if x8 = 2 then ((swagelaw06_live.f k).bind fun t502 => (some t502)) else (some false)) else (some false)) else ((swageref06_Powers.f k x496000 x496001 x1).bind fun t503 => (if x8 = 0 then (swagelaw06_PointPowers.j1 k x1 x2 x7 t503 ((x7.length : Int) != x1) x496000 x496001) else (swagelaw06_PointPowers.j1 k x1 x2 x7 t503 true x496000 x496001)))
def swagelaw06_PointPowers.j1 : Nat → Int → Int → List (S57) → List (S59) → Bool → Int → Int → Option (Bool)
  | 0, _, _, _, _, _, _, _ => none
  | k + 1, x1, x2, x7, x9, x55, x496000, x496001 => if x55 = true then (some false) else (swagelaw06_PointPowers.l0 k x1 x2 x7 x9 0 x496000 x496001)
def swagelaw06_PointPowers.l0 : Nat → Int → Int → List (S57) → List (S59) → Int → Int → Int → Option (Bool)
  | 0, _, _, _, _, _, _, _ => none
  | k + 1, x1, x2, x7, x9, x10, x496000, x496001 => if x10 < x1 then (if 0 ≤ x10 then (if x10 < (x7.length : Int) then (if x10 < (x9.length : Int) then ((swagelaw06_is.f k ((rd_T57 x7 x10).f0) ((rd_T57 x7 x10).f1) ((rd_T59 x9 x10).f0) ((rd_T59 x9 x10).f1)).bind fun t508 => (if t508 = true then (swagelaw06_PointPowers.l0 k x1 x2 x7 x9 (wrap64 (x10 + 1)) x496000 x496001) else (some false))) else (none)) else (none)) else (none)) else ((swageref06_In.f (wrap64 (x496000 * (Int.tmod x2 17))) (wrap64 (x496001 * (Int.tmod x2 17)))).bind fun t510 => (if t510 = true then (swagelaw06_PointPowers.j3 k x1 x2 x7 (decide (x1 < 1)) (wrap64 (x496000 * (Int.tmod x2 17))) (wrap64 (x496001 * (Int.tmod x2 17)))) else (swagelaw06_PointPowers.j3 k x1 x2 x7 true (wrap64 (x496000 * (Int.tmod x2 17))) (wrap64 (x496001 * (Int.tmod x2 17))))))
def swagelaw06_PointPowers.j3 : Nat → Int → Int → List (S57) → Bool → Int → Int → Option (Bool)
  | 0, _, _, _, _, _, _ => none
  | k + 1, x1, x2, x7, x88, x510000, x510001 => if x88 = true then (some true) else ((point_Powers.f k x510000 x510001 x1).bind fun bt511 => ((integer_Of.f k (Int.tmod x2 17)).bind fun bt515 => ((integer_Int_Pow.f k bt515.1 bt515.2 (wrap64 (x1 - 1))).bind fun bt519 => (if bt511.2 = 0 then (if bt519.2.2 = 0 then (swagelaw06_PointPowers.j4 k x1 x7 bt511.1 ((bt511.1.length : Int) != x1) bt519.1 bt519.2.1) else (swagelaw06_PointPowers.j4 k x1 x7 bt511.1 true bt519.1 bt519.2.1)) else (swagelaw06_PointPowers.j4 k x1 x7 bt511.1 true bt519.1 bt519.2.1)))))
def swagelaw06_PointPowers.j4 : Nat → Int → List (S57) → List (S57) → Bool → Bool → List Int → Option (Bool)
  | 0, _, _, _, _, _, _ => none
  | k + 1, x1, x7, x12, x115, x525000, x525001 => if x115 = true then (some false) else (swagelaw06_PointPowers.l1 k x1 x7 x12 0 x525000 x525001)
def swagelaw06_PointPowers.l1 : Nat → Int → List (S57) → List (S57) → Int → Bool → List Int → Option (Bool)
  | 0, _, _, _, _, _, _ => none
  | k + 1, x1, x7, x12, x15, x525000, x525001 => if x15 < x1 then (if 0 ≤ x15 then (if x15 < (x12.length : Int) then (if x15 < (x7.length : Int) then ((integer_Int_Mul.f k ((rd_T57 x7 x15).f0) ((rd_T57 x7 x15).f1) x525000 x525001).bind fun bt527 => ((integer_Int_Cmp.f k ((rd_T57 x12 x15).f0) ((rd_T57 x12 x15).f1) bt527.1 bt527.2).bind fun t531 => (if t531 = 0 then (swagelaw06_PointPowers.l1 k x1 x7 x12 (wrap64 (x15 + 1)) x525000 x525001) else (some false)))) else (none)) else (none)) else (none)) else (some true)
end
def swagelaw06_PointPowers.f (k : Nat) (a0_0 : Int) (a0_1 : Int) (a1 : Int) (a2 : Int) : Option (Bool) := (swagelaw06_live.f k).bind fun t496 => (if t496 = true then ((point_Powers.f k a0_0 a0_1 a1).bind fun bt497 => ((swageref06_In.f a0_0 a0_1).bind fun t501 => (if t501 = true then (if a1 < 0 then (swagelaw06_PointPowers.j0 k a1 a2 bt497.1 bt497.2 true a0_0 a0_1) else (swagelaw06_PointPowers.j0 k a1 a2 bt497.1 bt497.2 (decide (a1 > 16)) a0_0 a0_1)) else (swagelaw06_PointPowers.j0 k a1 a2 bt497.1 bt497.2 true a0_0 a0_1)))) else (some false))
def swagelaw06_PointPowers.T12 : Bool × List (List Nat × List Nat) := (true, [([], []), ([], []), ([0, 1], [0, 1]), ([2], [2]), ([], []), ([], []), ([4, 5], [4, 5]), ([6], [6]), ([3, 7], [3, 7]), ([8], [8])])
def swagelaw06_PointPowers.B12 : List Nat := [0, 0, 3, 7, 0, 0, 48, 112, 255, 511]
theorem swagelaw06_PointPowers.tab12 : rtab .any (opsOf Try.f7 12) = swagelaw06_PointPowers.T12 := by kernel_rfl
theorem swagelaw06_PointPowers.bits12 : waitsOk swagelaw06_PointPowers.T12.2 swagelaw06_PointPowers.B12 = true := by kernel_rfl
def swagelaw06_PointPowers.T24 : Bool × List (List Nat × List Nat) := (true, [([], []), ([], []), ([0, 1], [0, 1]), ([2], [2]), ([], []), ([], []), ([4, 5], [4, 5]), ([6], [6]), ([], []), ([7, 8], [7, 8]), ([3, 9, 9], [3, 9]), ([10], [10])])
def swagelaw06_PointPowers.B24 : List Nat := [0, 0, 3, 7, 0, 0, 48, 112, 0, 496, 1023, 2047]
theorem swagelaw06_PointPowers.tab24 : rtab .any (opsOf Try.f7 24) = swagelaw06_PointPowers.T24 := by kernel_rfl
theorem swagelaw06_PointPowers.bits24 : waitsOk swagelaw06_PointPowers.T24.2 swagelaw06_PointPowers.B24 = true := by kernel_rfl
set_option maxHeartbeats 8000000 in
set_option maxRecDepth 100000 in
theorem swagelaw06_PointPowers.calls (k : Nat) (a0_0 : Int) (a0_1 : Int) (a1 : Int) (a2 : Int) (r : Bool) (w : World) (hT : Aside0 (r = true)) (h : swagelaw06_PointPowers.f k a0_0 a0_1 a1 a2 = some r) :
    Calls Try.prog 7 #[.agg #[.int .i64 a0_0, .int .i64 a0_1], .int .i64 a1, .int .i64 a2] w fun e w' => e = .returned (.bool r) ∧ Below w.heap.size w w' := by
  have hu23 := Try.underlying23
  have hu57 := Try.underlying57
  have hu59 := Try.underlying59
  have HB := Aside0.mk (Below.refl w.heap.size w)
  have H : ((swagelaw06_live.f k).bind fun t496 => (if t496 = true then ((point_Powers.f k a0_0 a0_1 a1).bind fun bt497 => ((swageref06_In.f a0_0 a0_1).bind fun t501 => (if t501 = true then (if a1 < 0 then (swagelaw06_PointPowers.j0 k a1 a2 bt497.1 bt497.2 true a0_0 a0_1) else (swagelaw06_PointPowers.j0 k a1 a2 bt497.1 bt497.2 (decide (a1 > 16)) a0_0 a0_1)) else (swagelaw06_PointPowers.j0 k a1 a2 bt497.1 bt497.2 true a0_0 a0_1)))) else (some false))) = some r := h
  clear h
  replace H := Option.bind_eq_some_iff.mp H
  obtain ⟨t496, A40, H⟩ := H
  replace H : (if t496 = true then ((point_Powers.f k a0_0 a0_1 a1).bind fun bt497 => ((swageref06_In.f a0_0 a0_1).bind fun t501 => (if t501 = true then (if a1 < 0 then (swagelaw06_PointPowers.j0 k a1 a2 bt497.1 bt497.2 true a0_0 a0_1) else (swagelaw06_PointPowers.j0 k a1 a2 bt497.1 bt497.2 (decide (a1 > 16)) a0_0 a0_1)) else (swagelaw06_PointPowers.j0 k a1 a2 bt497.1 bt497.2 true a0_0 a0_1)))) else (some false)) = some r := H
  have A4 := Aside0.mk A40
  clear A40
  by_cases c5 : t496 = true
  · subst c5
    have H1 : ((point_Powers.f k a0_0 a0_1 a1).bind fun bt497 => ((swageref06_In.f a0_0 a0_1).bind fun t501 => (if t501 = true then (if a1 < 0 then (swagelaw06_PointPowers.j0 k a1 a2 bt497.1 bt497.2 true a0_0 a0_1) else (swagelaw06_PointPowers.j0 k a1 a2 bt497.1 bt497.2 (decide (a1 > 16)) a0_0 a0_1)) else (swagelaw06_PointPowers.j0 k a1 a2 bt497.1 bt497.2 true a0_0 a0_1)))) = some r := by rw [if_pos rfl] at H; exact H
    clear H
    have H := H1
    clear H1
    replace H := Option.bind_eq_some_iff.mp H
    obtain ⟨⟨t497, t500⟩, A60, H⟩ := H
    replace H : ((swageref06_In.f a0_0 a0_1).bind fun t501 => (if t501 = true then (if a1 < 0 then (swagelaw06_PointPowers.j0 k a1 a2 t497 t500 true a0_0 a0_1) else (swagelaw06_PointPowers.j0 k a1 a2 t497 t500 (decide (a1 > 16)) a0_0 a0_1)) else (swagelaw06_PointPowers.j0 k a1 a2 t497 t500 true a0_0 a0_1))) = some r := H
    have A6 := Aside0.mk A60
    clear A60
    have HC7 := Aside0.mk H
    clear H
    go_enter Try.func7, Try.ntmps7
    go_upto_region 4 with (first | ((with_reducible refine gate_dst (N := 3) rfl ?_); (try (refine gate_guard (by rfl) ?_; dsimp only)); refine box_event ?hg (N := 3) ?hd (cs := #[.int .i64 a0_0, .int .i64 a0_1]) (t := 23) ?hr ?_; (case hd => rfl); (case hg => rfl); (case hr => first | (go_simp; done) | (go_simp; rfl)); intro gb495 hg w8 hbox hb; have n0_ := Aside0.mk (below_step (by repeat (first | (with_reducible first | exact HB.out | apply below_alloc | apply pw_below_drewN | apply below_drew1) | exact HB.out)) hb); have n1_ := Aside0.mk (hbox); have n2_ := Aside0.mk ((by rw [hg]; exact (below_size (by repeat (first | (with_reducible first | exact HB.out | apply below_alloc | apply pw_below_drewN | apply below_drew1) | exact HB.out))) : w.heap.size ≤ gb495)); have n3_ := Aside0.mk ((by rw [hg]; exact (below_size (by repeat (first | (with_reducible first | exact HB.out | apply below_alloc | apply pw_below_drewN | apply below_drew1) | exact HB.out))) : w.heap.size ≤ gb495)); clear HB; have HB := n0_; have BK495 := n1_; have GW495 := n2_; have GE495 := n3_; clear n0_ n1_ n2_ n3_; clear hb hbox hg) | ((with_reducible refine gate_callee (f := 8) rfl ?_); refine goesL_ (some 16) rfl rfl Try.func8 (by kernel_rfl) rfl #[] rfl (by (try simp only [List.map_toArray, List.map_cons, List.map_nil]); first | done | rfl | (simp only [List.length_drop, List.length_take]; rfl)) ?_; (with_reducible refine (swagelaw06_live.calls k  true _ A4.out).mono ?_); rintro e w9 ⟨rfl, hb⟩; refine ⟨_, rfl, ?_⟩; have n0_ := Aside0.mk (blk_below (g := gb495) (o := .cells #[.int .i64 a0_0, .int .i64 a0_1] 23 (0, 0)) (by (with_reducible repeat (first | refine blk_drewN ?_ _ | refine blk_drew ?_ | refine blk_alloc ?_ _)); exact BK495.out) hb); have n1_ := Aside0.mk (below_step (by repeat (first | (with_reducible first | exact HB.out | apply below_alloc | apply pw_below_drewN | apply below_drew1 | refine below_set ?_ GE495.out) | exact HB.out)) hb); clear BK495; clear HB; have BK495 := n0_; have HB := n1_; clear n0_ n1_; (try clear hb); (try clear hb2); (try clear hk); (try clear hi); have hcz10_0 : w9.cell? ⟨gb495, 0, none⟩ = some (.int .i64 a0_0) := (blk_cell BK495.out 0).trans rfl; have hcz10_1 : w9.cell? ⟨gb495, 1, none⟩ = some (.int .i64 a0_1) := (blk_cell BK495.out 1).trans rfl; have hfz10_0 := blk_frozen BK495.out 0; have hfz10_1 := blk_frozen BK495.out 1) | ((with_reducible refine gate_callee (f := 25) rfl ?_); refine goesL_ (some 21) rfl rfl Try.func25 (by kernel_rfl) rfl #[.agg #[.int .i64 a0_0, .int .i64 a0_1], .int .i64 a1] rfl (by (try simp only [List.map_toArray, List.map_cons, List.map_nil]); first | done | rfl | (simp only [List.length_drop, List.length_take]; rfl)) ?_; (with_reducible refine (point_Powers.calls k a0_0 a0_1 a1 t497 t500 _ A6.out).mono ?_); rintro e w11 ⟨v498, rfl, ho0, hb⟩; refine ⟨_, rfl, ?_⟩; have n0_ := Aside0.mk (Kd.N_lower (Kd.N_mono (ok' := fun k_ => k_ ≠ gb495) ho0 (fun k_ hk_ => (Kd.freshB (g := gb495) (o := .cells #[.int .i64 a0_0, .int .i64 a0_1] 23 (0, 0)) (by (with_reducible repeat (first | refine blk_drewN ?_ _ | refine blk_drew ?_ | refine blk_alloc ?_ _)); exact BK495.out) k_ hk_))) (below_size (by repeat (first | (with_reducible first | exact HB.out | apply below_alloc | apply pw_below_drewN | apply below_drew1 | refine below_set ?_ GE495.out) | exact HB.out)))); have n1_ := Aside0.mk (blk_below (g := gb495) (o := .cells #[.int .i64 a0_0, .int .i64 a0_1] 23 (0, 0)) (by (with_reducible repeat (first | refine blk_drewN ?_ _ | refine blk_drew ?_ | refine blk_alloc ?_ _)); exact BK495.out) hb); have n2_ := Aside0.mk (below_step (by repeat (first | (with_reducible first | exact HB.out | apply below_alloc | apply pw_below_drewN | apply below_drew1 | refine below_set ?_ GE495.out) | exact HB.out)) hb); clear BK495; clear HB; have HO499 := n0_; have BK495 := n1_; have HB := n2_; clear n0_ n1_ n2_; (try clear hb); (try clear hb2); (try clear hk); (try clear hi); (try clear ho0)))
    (try simp only [Act.put, List.setIfInBounds_toArray, List.set_cons_zero, List.set_cons_succ])
    go_cut [34] (fun v34 wc => ∃ (kq : Nat) (x34_6 : Bool), v34 = .bool x34_6 ∧ Aside0 (swagelaw06_PointPowers.j0 kq a1 a2 t497 t500 x34_6 a0_0 a0_1 = some r) ∧ Aside0 (kq ≤ k) ∧ Aside0 (Kd.N k57 57 wc w.heap.size (fun k_ => k_ ≠ gb495) v498 t497) ∧ Aside0 (wc.heap[gb495]? = some (.cells #[.int .i64 a0_0, .int .i64 a0_1] 23 (0, 0))) ∧ Aside0 (Below w.heap.size w wc))
    case first =>
      have H := HC7.out
      clear HC7
      replace H := Option.bind_eq_some_iff.mp H
      obtain ⟨t501, A120, H⟩ := H
      replace H : (if t501 = true then (if a1 < 0 then (swagelaw06_PointPowers.j0 k a1 a2 t497 t500 true a0_0 a0_1) else (swagelaw06_PointPowers.j0 k a1 a2 t497 t500 (decide (a1 > 16)) a0_0 a0_1)) else (swagelaw06_PointPowers.j0 k a1 a2 t497 t500 true a0_0 a0_1)) = some r := H
      have A12 := Aside0.mk A120
      clear A120
      by_cases c13 : t501 = true
      · subst c13
        have H1 : (if a1 < 0 then (swagelaw06_PointPowers.j0 k a1 a2 t497 t500 true a0_0 a0_1) else (swagelaw06_PointPowers.j0 k a1 a2 t497 t500 (decide (a1 > 16)) a0_0 a0_1)) = some r := by rw [if_pos rfl] at H; exact H
        clear H
        have H := H1
        clear H1
        by_cases c14 : a1 < 0
        · rw [if_pos c14] at H
          have c14b0 : decide (a1 < 0) = true := decide_eq_true c14
          clear c14
          (first | rw [c14b0] | (simp only [i64_w, i32_w]; rw [c14b0]) | skip)
          have H' := Aside0.mk H
          clear H
          have hcz15_0 : w11.cell? ⟨gb495, 0, none⟩ = some (.int .i64 a0_0) := (blk_cell BK495.out 0).trans rfl
          have hcz15_1 : w11.cell? ⟨gb495, 1, none⟩ = some (.int .i64 a0_1) := (blk_cell BK495.out 1).trans rfl
          have hfz15_0 := blk_frozen BK495.out 0
          have hfz15_1 := blk_frozen BK495.out 1
          go_wp2_with (first | ((with_reducible refine gate_callee (f := 9) rfl ?_); refine goesL_ (some 25) rfl rfl Try.func9 (by kernel_rfl) rfl #[.agg #[.int .i64 a0_0, .int .i64 a0_1]] rfl (by (try simp only [List.map_toArray, List.map_cons, List.map_nil]); first | done | rfl | (simp only [List.length_drop, List.length_take]; rfl)) ?_; (with_reducible refine (swageref06_In.calls a0_0 a0_1 true _ A12.out).mono ?_); rintro e w16 ⟨rfl, hb⟩; refine ⟨_, rfl, ?_⟩; have n0_ := Aside0.mk (Kd.N_below (by (with_reducible repeat (first | apply Kd.N_alloc | apply Kd.N_drewN | apply Kd.N_drew)); exact HO499.out) hb); have n1_ := Aside0.mk (blk_below (g := gb495) (o := .cells #[.int .i64 a0_0, .int .i64 a0_1] 23 (0, 0)) (by (with_reducible repeat (first | refine blk_drewN ?_ _ | refine blk_drew ?_ | refine blk_alloc ?_ _)); exact BK495.out) hb); have n2_ := Aside0.mk (below_step (by repeat (first | (with_reducible first | exact HB.out | apply below_alloc | apply pw_below_drewN | apply below_drew1 | refine below_set ?_ GE495.out) | exact HB.out)) hb); clear HO499; clear BK495; clear HB; have HO499 := n0_; have BK495 := n1_; have HB := n2_; clear n0_ n1_ n2_; (try clear hb); (try clear hb2); (try clear hk); (try clear hi)))
          go_meet
          case rel => exact ⟨_, (true), (by first | rfl | (simp; done) | (simp [*]; done)), H', ⟨by first | omega | exact Nat.le_refl _⟩, ⟨by (with_reducible repeat (first | apply Kd.N_alloc | apply Kd.N_drewN | apply Kd.N_drew)); exact HO499.out⟩, ⟨by (with_reducible repeat (first | refine blk_drewN ?_ _ | refine blk_drew ?_ | refine blk_alloc ?_ _)); exact BK495.out⟩, ⟨by repeat (first | (with_reducible first | exact HB.out | apply below_alloc | apply pw_below_drewN | apply below_drew1 | refine below_set ?_ GE495.out) | exact HB.out)⟩⟩
        · rw [if_neg c14] at H
          have c14b0 : decide (a1 < 0) = false := decide_eq_false c14
          clear c14
          (first | rw [c14b0] | (simp only [i64_w, i32_w]; rw [c14b0]) | skip)
          have H' := Aside0.mk H
          clear H
          have hcz17_0 : w11.cell? ⟨gb495, 0, none⟩ = some (.int .i64 a0_0) := (blk_cell BK495.out 0).trans rfl
          have hcz17_1 : w11.cell? ⟨gb495, 1, none⟩ = some (.int .i64 a0_1) := (blk_cell BK495.out 1).trans rfl
          have hfz17_0 := blk_frozen BK495.out 0
          have hfz17_1 := blk_frozen BK495.out 1
          go_wp2_with (first | ((with_reducible refine gate_callee (f := 9) rfl ?_); refine goesL_ (some 25) rfl rfl Try.func9 (by kernel_rfl) rfl #[.agg #[.int .i64 a0_0, .int .i64 a0_1]] rfl (by (try simp only [List.map_toArray, List.map_cons, List.map_nil]); first | done | rfl | (simp only [List.length_drop, List.length_take]; rfl)) ?_; (with_reducible refine (swageref06_In.calls a0_0 a0_1 true _ A12.out).mono ?_); rintro e w18 ⟨rfl, hb⟩; refine ⟨_, rfl, ?_⟩; have n0_ := Aside0.mk (Kd.N_below (by (with_reducible repeat (first | apply Kd.N_alloc | apply Kd.N_drewN | apply Kd.N_drew)); exact HO499.out) hb); have n1_ := Aside0.mk (blk_below (g := gb495) (o := .cells #[.int .i64 a0_0, .int .i64 a0_1] 23 (0, 0)) (by (with_reducible repeat (first | refine blk_drewN ?_ _ | refine blk_drew ?_ | refine blk_alloc ?_ _)); exact BK495.out) hb); have n2_ := Aside0.mk (below_step (by repeat (first | (with_reducible first | exact HB.out | apply below_alloc | apply pw_below_drewN | apply below_drew1 | refine below_set ?_ GE495.out) | exact HB.out)) hb); clear HO499; clear BK495; clear HB; have HO499 := n0_; have BK495 := n1_; have HB := n2_; clear n0_ n1_ n2_; (try clear hb); (try clear hb2); (try clear hk); (try clear hi)))
          go_meet
          case rel => exact ⟨_, (decide (a1 > 16)), (by first | rfl | (simp; done) | (simp [*]; done)), H', ⟨by first | omega | exact Nat.le_refl _⟩, ⟨by (with_reducible repeat (first | apply Kd.N_alloc | apply Kd.N_drewN | apply Kd.N_drew)); exact HO499.out⟩, ⟨by (with_reducible repeat (first | refine blk_drewN ?_ _ | refine blk_drew ?_ | refine blk_alloc ?_ _)); exact BK495.out⟩, ⟨by repeat (first | (with_reducible first | exact HB.out | apply below_alloc | apply pw_below_drewN | apply below_drew1 | refine below_set ?_ GE495.out) | exact HB.out)⟩⟩
      · replace c13 := Bool.eq_false_iff.mpr c13
        subst c13
        have H1 : (swagelaw06_PointPowers.j0 k a1 a2 t497 t500 true a0_0 a0_1) = some r := by rw [if_neg (show ¬ (false = true) by decide)] at H; exact H
        clear H
        have H := H1
        clear H1
        have H' := Aside0.mk H
        clear H
        have hcz19_0 : w11.cell? ⟨gb495, 0, none⟩ = some (.int .i64 a0_0) := (blk_cell BK495.out 0).trans rfl
        have hcz19_1 : w11.cell? ⟨gb495, 1, none⟩ = some (.int .i64 a0_1) := (blk_cell BK495.out 1).trans rfl
        have hfz19_0 := blk_frozen BK495.out 0
        have hfz19_1 := blk_frozen BK495.out 1
        go_wp2_with (first | ((with_reducible refine gate_callee (f := 9) rfl ?_); refine goesL_ (some 25) rfl rfl Try.func9 (by kernel_rfl) rfl #[.agg #[.int .i64 a0_0, .int .i64 a0_1]] rfl (by (try simp only [List.map_toArray, List.map_cons, List.map_nil]); first | done | rfl | (simp only [List.length_drop, List.length_take]; rfl)) ?_; (with_reducible refine (swageref06_In.calls a0_0 a0_1 false _ A12.out).mono ?_); rintro e w20 ⟨rfl, hb⟩; refine ⟨_, rfl, ?_⟩; have n0_ := Aside0.mk (Kd.N_below (by (with_reducible repeat (first | apply Kd.N_alloc | apply Kd.N_drewN | apply Kd.N_drew)); exact HO499.out) hb); have n1_ := Aside0.mk (blk_below (g := gb495) (o := .cells #[.int .i64 a0_0, .int .i64 a0_1] 23 (0, 0)) (by (with_reducible repeat (first | refine blk_drewN ?_ _ | refine blk_drew ?_ | refine blk_alloc ?_ _)); exact BK495.out) hb); have n2_ := Aside0.mk (below_step (by repeat (first | (with_reducible first | exact HB.out | apply below_alloc | apply pw_below_drewN | apply below_drew1 | refine below_set ?_ GE495.out) | exact HB.out)) hb); clear HO499; clear BK495; clear HB; have HO499 := n0_; have BK495 := n1_; have HB := n2_; clear n0_ n1_ n2_; (try clear hb); (try clear hb2); (try clear hk); (try clear hi)))
        go_meet
        case rel => exact ⟨_, (true), (by first | rfl | (simp; done) | (simp [*]; done)), H', ⟨by first | omega | exact Nat.le_refl _⟩, ⟨by (with_reducible repeat (first | apply Kd.N_alloc | apply Kd.N_drewN | apply Kd.N_drew)); exact HO499.out⟩, ⟨by (with_reducible repeat (first | refine blk_drewN ?_ _ | refine blk_drew ?_ | refine blk_alloc ?_ _)); exact BK495.out⟩, ⟨by repeat (first | (with_reducible first | exact HB.out | apply below_alloc | apply pw_below_drewN | apply below_drew1 | refine below_set ?_ GE495.out) | exact HB.out)⟩⟩
    case rest =>
      clear HC7
      try clear c5
      obtain ⟨kq, x34_6, rfl, HA, HJ6, HO_7, BK495, HB⟩ := hcut
      cases kq with
      | zero => exact absurd HA.out (by simp [swagelaw06_PointPowers.j0])
      | succ kj6 =>
        have H := HA.out
        clear HA
        simp only [swagelaw06_PointPowers.j0] at H
        by_cases c21 : x34_6 = true
        · subst c21
          have H1 : (if (t497.length : Int) = 0 then (if t500 = 2 then ((swagelaw06_live.f kj6).bind fun t502 => (some t502)) else (some false)) else (some false)) = some r := by rw [if_pos rfl] at H; exact H
          clear H
          have H := H1
          clear H1
          by_cases c22 : (t497.length : Int) = 0
          · rw [if_pos c22] at H
            have c22b0 : ((t497.length : Int) == 0) = true := beq_iff_eq.mpr c22
            have c22b1 : ((t497.length : Int) != 0) = false := bne_eq_false_iff_eq.mpr c22
            clear c22
            by_cases c23 : t500 = 2
            · rw [if_pos c23] at H
              have c23b0 : (t500 == 2) = true := beq_iff_eq.mpr c23
              have c23b1 : (t500 != 2) = false := bne_eq_false_iff_eq.mpr c23
              clear c23
              replace H := Option.bind_eq_some_iff.mp H
              obtain ⟨t502, A240, H⟩ := H
              replace H : (some t502) = some r := H
              have A24 := Aside0.mk A240
              clear A240
              obtain rfl := Option.some.inj H
              obtain ⟨Ao25, co25, eo25⟩ := Kd.N_slice HO_7.out
              subst eo25
              go_wp2_with (first | (go_at_call 8; (with_reducible refine (swagelaw06_live.calls kj6  t502 _ A24.out).mono ?_); rintro e w26 ⟨rfl, hb⟩; have n0_ := Aside0.mk (Kd.N_below (by (with_reducible repeat (first | apply Kd.N_alloc | apply Kd.N_drewN | apply Kd.N_drew)); exact HO_7.out) hb); have n1_ := Aside0.mk (blk_below (g := gb495) (o := .cells #[.int .i64 a0_0, .int .i64 a0_1] 23 (0, 0)) (by (with_reducible repeat (first | refine blk_drewN ?_ _ | refine blk_drew ?_ | refine blk_alloc ?_ _)); exact BK495.out) hb); have n2_ := Aside0.mk (below_step (by repeat (first | (with_reducible first | exact HB.out | apply below_alloc | apply pw_below_drewN | apply below_drew1 | refine below_set ?_ GE495.out) | exact HB.out)) hb); clear HO_7; clear BK495; clear HB; have HO_7 := n0_; have BK495 := n1_; have HB := n2_; clear n0_ n1_ n2_; (try clear hb); (try clear hb2); (try clear hk); (try clear hi)))
              go_ret
              exact ⟨by first | rfl | (simp [errW_none, errW_some] <;> rfl) | (simp [*, errW_none, errW_some] <;> rfl), by repeat (first | (with_reducible first | exact HB.out | apply below_alloc | apply pw_below_drewN | apply below_drew1 | refine below_set ?_ GE495.out) | exact HB.out)⟩
            · rw [if_neg c23] at H
              have c23b0 : (t500 == 2) = false := beq_eq_false_iff_ne.mpr c23
              have c23b1 : (t500 != 2) = true := bne_iff_ne.mpr c23
              obtain rfl := Option.some.inj H
              exact absurd hT.out (by simp)
          · rw [if_neg c22] at H
            have c22b0 : ((t497.length : Int) == 0) = false := beq_eq_false_iff_ne.mpr c22
            have c22b1 : ((t497.length : Int) != 0) = true := bne_iff_ne.mpr c22
            have c22b2 : ¬ (t497 = []) := fun h_ => c22 (by rw [h_]; rfl)
            obtain rfl := Option.some.inj H
            exact absurd hT.out (by simp)
        · replace c21 := Bool.eq_false_iff.mpr c21
          subst c21
          have H1 : ((swageref06_Powers.f kj6 a0_0 a0_1 a1).bind fun t503 => (if t500 = 0 then (swagelaw06_PointPowers.j1 kj6 a1 a2 t497 t503 ((t497.length : Int) != a1) a0_0 a0_1) else (swagelaw06_PointPowers.j1 kj6 a1 a2 t497 t503 true a0_0 a0_1))) = some r := by rw [if_neg (show ¬ (false = true) by decide)] at H; exact H
          clear H
          have H := H1
          clear H1
          replace H := Option.bind_eq_some_iff.mp H
          obtain ⟨t503, A270, H⟩ := H
          replace H : (if t500 = 0 then (swagelaw06_PointPowers.j1 kj6 a1 a2 t497 t503 ((t497.length : Int) != a1) a0_0 a0_1) else (swagelaw06_PointPowers.j1 kj6 a1 a2 t497 t503 true a0_0 a0_1)) = some r := H
          have A27 := Aside0.mk A270
          clear A270
          have HC28 := Aside0.mk H
          clear H
          have hcz29_0 : wc.cell? ⟨gb495, 0, none⟩ = some (.int .i64 a0_0) := (blk_cell BK495.out 0).trans rfl
          have hcz29_1 : wc.cell? ⟨gb495, 1, none⟩ = some (.int .i64 a0_1) := (blk_cell BK495.out 1).trans rfl
          have hfz29_0 := blk_frozen BK495.out 0
          have hfz29_1 := blk_frozen BK495.out 1
          go_upto_region 7 with (first | ((with_reducible refine gate_callee (f := 26) rfl ?_); refine goesL_ (some 47) rfl rfl Try.func26 (by kernel_rfl) rfl #[.agg #[.int .i64 a0_0, .int .i64 a0_1], .int .i64 a1] rfl (by (try simp only [List.map_toArray, List.map_cons, List.map_nil]); first | done | rfl | (simp only [List.length_drop, List.length_take]; rfl)) ?_; (with_reducible refine (swageref06_Powers.calls kj6 a0_0 a0_1 a1 t503 _ A27.out).mono ?_); rintro e w30 ⟨v504, rfl, ho0, hb⟩; refine ⟨_, rfl, ?_⟩; have n0_ := Aside0.mk (Kd.N_elder' (by (with_reducible repeat (first | apply Kd.N_alloc | apply Kd.N_drewN | apply Kd.N_drew)); exact HO_7.out) (Kd.N_base ho0) hb); have n1_ := Aside0.mk (Kd.N_lower (Kd.N_mono (ok' := fun k_ => some k_ ≠ (v498 : Value).ownBlock ∧ k_ ≠ gb495) ho0 (fun k_ hk_ => ⟨(Kd.fresh' (Kd.N_lt (by (with_reducible repeat (first | apply Kd.N_alloc | apply Kd.N_drewN | apply Kd.N_drew)); exact HO_7.out)) k_ hk_), (Kd.freshB (g := gb495) (o := .cells #[.int .i64 a0_0, .int .i64 a0_1] 23 (0, 0)) (by (with_reducible repeat (first | refine blk_drewN ?_ _ | refine blk_drew ?_ | refine blk_alloc ?_ _)); exact BK495.out) k_ hk_)⟩)) (below_size (by repeat (first | (with_reducible first | exact HB.out | apply below_alloc | apply pw_below_drewN | apply below_drew1 | refine below_set ?_ GE495.out) | exact HB.out)))); have n2_ := Aside0.mk (blk_below (g := gb495) (o := .cells #[.int .i64 a0_0, .int .i64 a0_1] 23 (0, 0)) (by (with_reducible repeat (first | refine blk_drewN ?_ _ | refine blk_drew ?_ | refine blk_alloc ?_ _)); exact BK495.out) hb); have n3_ := Aside0.mk (below_step (by repeat (first | (with_reducible first | exact HB.out | apply below_alloc | apply pw_below_drewN | apply below_drew1 | refine below_set ?_ GE495.out) | exact HB.out)) hb); clear HO_7; clear BK495; clear HB; have HO_7 := n0_; have HO505 := n1_; have BK495 := n2_; have HB := n3_; clear n0_ n1_ n2_ n3_; (try clear hb); (try clear hb2); (try clear hk); (try clear hi); (try clear ho0)))
          (try simp only [Act.put, List.setIfInBounds_toArray, List.set_cons_zero, List.set_cons_succ])
          go_cut [55] (fun v55 wc => ∃ (kq : Nat) (x55_27 : Bool), v55 = .bool x55_27 ∧ Aside0 (swagelaw06_PointPowers.j1 kq a1 a2 t497 t503 x55_27 a0_0 a0_1 = some r) ∧ Aside0 (kq ≤ kj6) ∧ Aside0 (Kd.N k57 57 wc w.heap.size (fun k_ => some k_ ≠ (v504 : Value).ownBlock ∧ k_ ≠ gb495) v498 t497) ∧ Aside0 (Kd.N k59 59 wc w.heap.size (fun k_ => some k_ ≠ (v498 : Value).ownBlock ∧ k_ ≠ gb495) v504 t503) ∧ Aside0 (wc.heap[gb495]? = some (.cells #[.int .i64 a0_0, .int .i64 a0_1] 23 (0, 0))) ∧ Aside0 (Below w.heap.size w wc))
          case first =>
            have H := HC28.out
            clear HC28
            by_cases c31 : t500 = 0
            · rw [if_pos c31] at H
              have c31b0 : (t500 == 0) = true := beq_iff_eq.mpr c31
              have c31b1 : (t500 != 0) = false := bne_eq_false_iff_eq.mpr c31
              clear c31
              (first | rw [c31b0] | (simp only [i64_w, i32_w]; rw [c31b0]) | skip)
              have H' := Aside0.mk H
              clear H
              obtain ⟨Ao32, co32, eo32⟩ := Kd.N_slice HO_7.out
              subst eo32
              go_wp2
              go_meet
              case rel => exact ⟨_, (((t497.length : Int) != a1)), (by first | rfl | (simp; done) | (simp [*]; done)), H', ⟨by have := HJ6.out; first | omega | exact Nat.le_refl _⟩, ⟨by (with_reducible repeat (first | apply Kd.N_alloc | apply Kd.N_drewN | apply Kd.N_drew)); exact Kd.N_mono HO_7.out (fun _ hk => ⟨hk.2, hk.1⟩)⟩, ⟨by (with_reducible repeat (first | apply Kd.N_alloc | apply Kd.N_drewN | apply Kd.N_drew)); exact HO505.out⟩, ⟨by (with_reducible repeat (first | refine blk_drewN ?_ _ | refine blk_drew ?_ | refine blk_alloc ?_ _)); exact BK495.out⟩, ⟨by repeat (first | (with_reducible first | exact HB.out | apply below_alloc | apply pw_below_drewN | apply below_drew1 | refine below_set ?_ GE495.out) | exact HB.out)⟩⟩
            · rw [if_neg c31] at H
              have c31b0 : (t500 == 0) = false := beq_eq_false_iff_ne.mpr c31
              have c31b1 : (t500 != 0) = true := bne_iff_ne.mpr c31
              (first | rw [c31b0] | (simp only [i64_w, i32_w]; rw [c31b0]) | skip)
              have H' := Aside0.mk H
              clear H
              go_wp2
              go_meet
              case rel => exact ⟨_, (true), (by first | rfl | (simp; done) | (simp [*]; done)), H', ⟨by have := HJ6.out; first | omega | exact Nat.le_refl _⟩, ⟨by (with_reducible repeat (first | apply Kd.N_alloc | apply Kd.N_drewN | apply Kd.N_drew)); exact Kd.N_mono HO_7.out (fun _ hk => ⟨hk.2, hk.1⟩)⟩, ⟨by (with_reducible repeat (first | apply Kd.N_alloc | apply Kd.N_drewN | apply Kd.N_drew)); exact HO505.out⟩, ⟨by (with_reducible repeat (first | refine blk_drewN ?_ _ | refine blk_drew ?_ | refine blk_alloc ?_ _)); exact BK495.out⟩, ⟨by repeat (first | (with_reducible first | exact HB.out | apply below_alloc | apply pw_below_drewN | apply below_drew1 | refine below_set ?_ GE495.out) | exact HB.out)⟩⟩
          case rest =>
            clear HC28
            try clear c5
            try clear c21
            obtain ⟨kq, x55_27, rfl, HA, HJ27, HO_7, HO_9, BK495, HB⟩ := hcut
            cases kq with
            | zero => exact absurd HA.out (by simp [swagelaw06_PointPowers.j1])
            | succ kj27 =>
              have H := HA.out
              clear HA
              simp only [swagelaw06_PointPowers.j1] at H
              by_cases c33 : x55_27 = true
              · subst c33
                have H1 : (some false) = some r := by rw [if_pos rfl] at H; exact H
                clear H
                have H := H1
                clear H1
                obtain rfl := Option.some.inj H
                exact absurd hT.out (by simp)
              · replace c33 := Bool.eq_false_iff.mpr c33
                subst c33
                have H1 : (swagelaw06_PointPowers.l0 kj27 a1 a2 t497 t503 0 a0_0 a0_1) = some r := by rw [if_neg (show ¬ (false = true) by decide)] at H; exact H
                clear H
                have H := H1
                clear H1
                have H' := Aside0.mk H
                clear H
                go_wp2
                go_loopg [10] kj27 (fun kq v10 w' => ∃ (x10_3 : Int), v10 = .int .i64 x10_3 ∧ Aside0 (swagelaw06_PointPowers.l0 kq a1 a2 t497 t503 x10_3 a0_0 a0_1 = some r) ∧ Aside0 (kq ≤ kj27) ∧ Aside0 (Kd.N k57 57 w' w.heap.size (fun k_ => some k_ ≠ (v504 : Value).ownBlock ∧ k_ ≠ gb495) v498 t497) ∧ Aside0 (Kd.N k59 59 w' w.heap.size (fun k_ => some k_ ≠ (v498 : Value).ownBlock ∧ k_ ≠ gb495) v504 t503) ∧ Aside0 (w'.heap[gb495]? = some (.cells #[.int .i64 a0_0, .int .i64 a0_1] 23 (0, 0))) ∧ Aside0 (Below w.heap.size w w'))
                case atStart => exact ⟨(0), (by first | rfl | (simp; done) | (simp [*]; done)), H', ⟨Nat.le_refl _⟩, ⟨by (with_reducible repeat (first | apply Kd.N_alloc | apply Kd.N_drewN | apply Kd.N_drew)); exact HO_7.out⟩, ⟨by (with_reducible repeat (first | apply Kd.N_alloc | apply Kd.N_drewN | apply Kd.N_drew)); exact HO_9.out⟩, ⟨by (with_reducible repeat (first | refine blk_drewN ?_ _ | refine blk_drew ?_ | refine blk_alloc ?_ _)); exact BK495.out⟩, ⟨by repeat (first | (with_reducible first | exact HB.out | apply below_alloc | apply pw_below_drewN | apply below_drew1 | refine below_set ?_ GE495.out) | exact HB.out)⟩⟩
                case round =>
                  clear H'
                  try clear c5
                  try clear c21
                  try clear c33
                  obtain ⟨x10_3, rfl, HA, HK3, HO_7, HO_9, BK495, HB⟩ := hrel
                  cases gk with
                  | zero => exact absurd HA.out (by simp [swagelaw06_PointPowers.l0])
                  | succ k3 =>
                    have H := HA.out
                    clear HA
                    simp only [swagelaw06_PointPowers.l0] at H
                    by_cases c34 : x10_3 < a1
                    · rw [if_pos c34] at H
                      have c34b0 : decide (x10_3 < a1) = true := decide_eq_true c34
                      clear c34
                      by_cases c35 : 0 ≤ x10_3
                      · rw [if_pos c35] at H
                        have c35b0 : decide (0 ≤ x10_3) = true := decide_eq_true c35
                        clear c35
                        by_cases c36 : x10_3 < (t497.length : Int)
                        · rw [if_pos c36] at H
                          have c36b0 : decide (x10_3 < (t497.length : Int)) = true := decide_eq_true c36
                          clear c36
                          by_cases c37 : x10_3 < (t503.length : Int)
                          · rw [if_pos c37] at H
                            have c37b0 : decide (x10_3 < (t503.length : Int)) = true := decide_eq_true c37
                            clear c37
                            replace H := Option.bind_eq_some_iff.mp H
                            obtain ⟨t508, A380, H⟩ := H
                            replace H : (if t508 = true then (swagelaw06_PointPowers.l0 k3 a1 a2 t497 t503 (wrap64 (x10_3 + 1)) a0_0 a0_1) else (some false)) = some r := H
                            have A38 := Aside0.mk A380
                            clear A380
                            by_cases c39 : t508 = true
                            · subst c39
                              have H1 : (swagelaw06_PointPowers.l0 k3 a1 a2 t497 t503 (wrap64 (x10_3 + 1)) a0_0 a0_1) = some r := by rw [if_pos rfl] at H; exact H
                              clear H
                              have H := H1
                              clear H1
                              have H' := Aside0.mk H
                              clear H
                              try go_wp2
                              have n0_ := Aside0.mk (Kd.N_drew HO_7.out)
                              have n1_ := Aside0.mk (Kd.N_drew HO_9.out)
                              have n2_ := Aside0.mk (blk_drew BK495.out)
                              have n3_ := Aside0.mk (below_drew1 HB.out)
                              clear HO_7
                              clear HO_9
                              clear BK495
                              clear HB
                              have HO_7 := n0_
                              have HO_9 := n1_
                              have BK495 := n2_
                              have HB := n3_
                              clear n0_ n1_ n2_ n3_
                              obtain ⟨Ao41, co41, eo41⟩ := Kd.N_slice HO_7.out
                              (first | subst eo41 | (injection eo41 with f1_ f2_ f3_; have f4_ := f1_.symm; have f5_ := f3_.symm; clear f1_ f2_ f3_; subst f4_; subst f5_))
                              have p506 : 0 ≤ (x10_3 : Int) := of_decide_eq_true (by first | (with_reducible assumption) | assumption)
                              have q506 : x10_3 < (t497.length : Int) := of_decide_eq_true (by first | (with_reducible assumption) | assumption)
                              obtain ⟨ad506, A506_1, c506_1, e506, hx506_0, hx506_1, hl506_1, hi506_1⟩ := at_T57 (Kd.N_reads' HO_7.out).2.2 x10_3 p506 q506
                              cases e506
                              obtain ⟨ce506, hce506, hMe506, hcc506⟩ := Kd.N_get HO_7.out z57 x10_3 p506 (by first | exact q506 | exact of_decide_eq_true (by first | (with_reducible assumption) | assumption) | (have e_ := (Kd.N_reads' HO_7.out).1; omega))
                              obtain ⟨ua506_1, uc506_1, rfl, ul506_1, ge506_1⟩ := k57_openF hMe506
                              have hv506_1 := hcc506 1 _ rfl
                              rw [add_field _ _ 1 (by omega)] at hv506_1
                              replace hv506_1 := Option.some.inj (hv506_1.symm.trans hx506_1)
                              injection hv506_1 with hva_ hvn_ hvc_
                              rw [hva_] at ge506_1
                              rw [hvc_] at ul506_1
                              have HL506_1 := Aside0.mk (show Kd.V (Kd.int .u32) 81 _ w.heap.size _ _ ((rd_T57 t497 x10_3).f1) from Kd.V_mk ul506_1 ge506_1)
                              clear hva_ hvn_ hvc_ ge506_1 ul506_1
                              clear hcc506 hce506
                              have HR506_1 := Aside0.mk hi506_1
                              have HC506_1 := Aside0.mk hl506_1
                              clear hi506_1 hl506_1
                              replace p506 := eq_true p506
                              replace q506 := eq_true q506
                              obtain ⟨Ao42, co42, eo42⟩ := Kd.N_slice HO_9.out
                              (first | subst eo42 | (injection eo42 with f1_ f2_ f3_; have f4_ := f1_.symm; have f5_ := f3_.symm; clear f1_ f2_ f3_; subst f4_; subst f5_))
                              have p507 : 0 ≤ (x10_3 : Int) := of_decide_eq_true (by first | (with_reducible assumption) | assumption)
                              have q507 : x10_3 < (t503.length : Int) := of_decide_eq_true (by first | (with_reducible assumption) | assumption)
                              obtain ⟨ad507, A507_1, c507_1, e507, hx507_0, hx507_1, hl507_1, hi507_1⟩ := at_T59 (Kd.N_reads' HO_9.out).2.2 x10_3 p507 q507
                              cases e507
                              obtain ⟨ce507, hce507, hMe507, hcc507⟩ := Kd.N_get HO_9.out z59 x10_3 p507 (by first | exact q507 | exact of_decide_eq_true (by first | (with_reducible assumption) | assumption) | (have e_ := (Kd.N_reads' HO_9.out).1; omega))
                              obtain ⟨ua507_1, uc507_1, rfl, ul507_1, ge507_1⟩ := k59_openF hMe507
                              have hv507_1 := hcc507 1 _ rfl
                              rw [add_field _ _ 1 (by omega)] at hv507_1
                              replace hv507_1 := Option.some.inj (hv507_1.symm.trans hx507_1)
                              injection hv507_1 with hva_ hvn_ hvc_
                              rw [hva_] at ge507_1
                              rw [hvc_] at ul507_1
                              have HL507_1 := Aside0.mk (show Kd.V (Kd.int .u32) 81 _ w.heap.size _ _ ((rd_T59 t503 x10_3).f1) from Kd.V_mk ul507_1 ge507_1)
                              clear hva_ hvn_ hvc_ ge507_1 ul507_1
                              clear hcc507 hce507
                              have HR507_1 := Aside0.mk hi507_1
                              have HC507_1 := Aside0.mk hl507_1
                              clear hi507_1 hl507_1
                              replace p507 := eq_true p507
                              replace q507 := eq_true q507
                              refine start_ (n := 10) (S := fun w' => w'.cell? (ad506.add ((x10_3).toNat * 2)) = some (.bool ((rd_T57 t497 x10_3).f0)) ∧ w'.cell? ⟨(ad506.add ((x10_3).toNat * 2)).block, (ad506.add ((x10_3).toNat * 2)).off + 1, none⟩ = some (.slice A506_1 ((rd_T57 t497 x10_3).f1).length c506_1) ∧ w'.cell? (ad507.add ((x10_3).toNat * 2)) = some (.bool ((rd_T59 t503 x10_3).f0)) ∧ w'.cell? ⟨(ad507.add ((x10_3).toNat * 2)).block, (ad507.add ((x10_3).toNat * 2)).off + 1, none⟩ = some (.slice A507_1 ((rd_T59 t503 x10_3).f1).length c507_1)) (ds := []) #[false, false, false, false, false, false, false, false, false, false] (by kernel_rfl) rfl rfl ⟨hx506_0, hx506_1, hx507_0, hx507_1⟩ (fun hHeld => ?_); refine with_tabW swagelaw06_PointPowers.tab12 swagelaw06_PointPowers.bits12 (fun HT_ HW_ => ?_)
                              generalize wr.drew = w40 at HO_7 HO_9 BK495 HB HL506_1 HL507_1 HR506_1 HR507_1 hx506_0 hx506_1 hx507_0 hx507_1 hHeld ⊢
                              refine pure_ (i := 0) (N := some 61) (v := ?_) (a' := ?_) #[true, false, false, false, false, false, false, false, false, false] rfl rfl (any_of HT_.out (by kernel_rfl)) (fun _ _ _ h => h) (Or.inl ⟨by rfl, ?_⟩) ?_ ?_
                              rotate_left
                              · intro w'
                                go_simp
                                with_reducible rfl
                              rotate_left
                              · simp only [Act.put, List.setIfInBounds_toArray, List.set_cons_zero, List.set_cons_succ, i64_w, i32_w]
                                rfl
                              refine pure_ (i := 1) (N := some 62) (v := ?_) (a' := ?_) #[true, true, false, false, false, false, false, false, false, false] rfl rfl (any_of HT_.out (by kernel_rfl)) (fun _ _ _ h => h) (Or.inl ⟨by rfl, ?_⟩) ?_ ?_
                              rotate_left
                              · intro w'
                                go_simp
                                with_reducible rfl
                              rotate_left
                              · simp only [Act.put, List.setIfInBounds_toArray, List.set_cons_zero, List.set_cons_succ, i64_w, i32_w]
                                rfl
                              refine pure_ (i := 2) (N := some 63) (v := ?_) (a' := ?_) #[true, true, true, false, false, false, false, false, false, false] rfl rfl (any_of HT_.out (by kernel_rfl)) (fun _ _ _ h => h) (Or.inl ⟨by rfl, ?_⟩) ?_ ?_
                              rotate_left
                              · intro w'
                                go_simp
                                with_reducible rfl
                              rotate_left
                              · simp only [Act.put, List.setIfInBounds_toArray, List.set_cons_zero, List.set_cons_succ, i64_w, i32_w]
                                rfl
                              refine pure_ (i := 4) (N := some 65) (v := ?_) (a' := ?_) #[true, true, true, false, true, false, false, false, false, false] rfl rfl (any_of HT_.out (by kernel_rfl)) (fun _ _ _ h => h) (Or.inl ⟨by rfl, ?_⟩) ?_ ?_
                              rotate_left
                              · intro w'
                                go_simp
                                with_reducible rfl
                              rotate_left
                              · simp only [Act.put, List.setIfInBounds_toArray, List.set_cons_zero, List.set_cons_succ, i64_w, i32_w]
                                rfl
                              refine pure_ (i := 5) (N := some 66) (v := ?_) (a' := ?_) #[true, true, true, false, true, true, false, false, false, false] rfl rfl (any_of HT_.out (by kernel_rfl)) (fun _ _ _ h => h) (Or.inl ⟨by rfl, ?_⟩) ?_ ?_
                              rotate_left
                              · intro w'
                                go_simp
                                with_reducible rfl
                              rotate_left
                              · simp only [Act.put, List.setIfInBounds_toArray, List.set_cons_zero, List.set_cons_succ, i64_w, i32_w]
                                rfl
                              refine pure_ (i := 6) (N := some 67) (v := ?_) (a' := ?_) #[true, true, true, false, true, true, true, false, false, false] rfl rfl (any_of HT_.out (by kernel_rfl)) (fun _ _ _ h => h) (Or.inl ⟨by rfl, ?_⟩) ?_ ?_
                              rotate_left
                              · intro w'
                                go_simp
                                with_reducible rfl
                              rotate_left
                              · simp only [Act.put, List.setIfInBounds_toArray, List.set_cons_zero, List.set_cons_succ, i64_w, i32_w]
                                rfl
                              refine take_ (i := 3) (N := some 64) (v := ?_) (a' := ?_) #[true, true, true, true, true, true, true, false, false, false] rfl rfl (take_ofW HT_.out HW_.out (by kernel_rfl)) (fun _ _ _ h => h) (Or.inl ⟨by rfl, ?_⟩) hHeld ?_ ?_
                              rotate_left
                              · rintro w' ⟨s0, s1, s2, s3⟩
                                go_simp
                                with_reducible rfl
                              rotate_left
                              · simp only [Act.put, List.setIfInBounds_toArray, List.set_cons_zero, List.set_cons_succ, i64_w, i32_w]
                                rfl
                              refine take_ (i := 7) (N := some 68) (v := ?_) (a' := ?_) #[true, true, true, true, true, true, true, true, false, false] rfl rfl (take_ofW HT_.out HW_.out (by kernel_rfl)) (fun _ _ _ h => h) (Or.inl ⟨by rfl, ?_⟩) hHeld ?_ ?_
                              rotate_left
                              · rintro w' ⟨s0, s1, s2, s3⟩
                                go_simp
                                with_reducible rfl
                              rotate_left
                              · simp only [Act.put, List.setIfInBounds_toArray, List.set_cons_zero, List.set_cons_succ, i64_w, i32_w]
                                rfl
                              refine one_ (i := 8) (N := some 69) #[true, true, true, true, true, true, true, true, true, false] rfl rfl (one_of HT_.out (by kernel_rfl)) (by decide) (fun K hK => ?_)
                              refine goes_ Try.func27 (by kernel_rfl) rfl #[.agg #[.bool ((rd_T57 t497 x10_3).f0), .slice A506_1 ((rd_T57 t497 x10_3).f1).length c506_1], .agg #[.bool ((rd_T59 t503 x10_3).f0), .slice A507_1 ((rd_T59 t503 x10_3).f1).length c507_1]] (by rfl) rfl rfl (by (try simp only [List.map_toArray, List.map_cons, List.map_nil]); first | done | rfl | (simp only [List.length_drop, List.length_take]; rfl)) ?_
                              with_reducible refine (swagelaw06_is.calls k3 ((rd_T57 t497 x10_3).f0) _ _ ((rd_T57 t497 x10_3).f1) ((rd_T59 t503 x10_3).f0) _ _ ((rd_T59 t503 x10_3).f1) true _ ?side1 ?side2 ?side3 ?side4 A38.out).mono ?_
                              (case side1 => repeat (first | exact (by repeat (first | (with_reducible exact HR506_1.out) | (with_reducible refine Kd.C_alloc ?_ _) | (with_reducible refine Kd.C_drewN ?_ _) | (with_reducible refine Kd.C_drew ?_) | exact HR506_1.out)) | (with_reducible refine Kd.C_alloc ?_ _) | (with_reducible refine Kd.C_drewN ?_ _) | (with_reducible refine Kd.C_drew ?_)))
                              (case side2 => exact HC506_1.out)
                              (case side3 => repeat (first | exact (by repeat (first | (with_reducible exact HR507_1.out) | (with_reducible refine Kd.C_alloc ?_ _) | (with_reducible refine Kd.C_drewN ?_ _) | (with_reducible refine Kd.C_drew ?_) | exact HR507_1.out)) | (with_reducible refine Kd.C_alloc ?_ _) | (with_reducible refine Kd.C_drewN ?_ _) | (with_reducible refine Kd.C_drew ?_)))
                              (case side4 => exact HC507_1.out)
                              rintro e w43 ⟨rfl, hb⟩
                              have HS0_ := (hb.cell (World.block_lt_of_cell? _ _ (hHeld.1))).trans (hHeld.1)
                              have HS1_ := (hb.cell (World.block_lt_of_cell? _ _ (hHeld.2.1))).trans (hHeld.2.1)
                              have HS2_ := (hb.cell (World.block_lt_of_cell? _ _ (hHeld.2.2.1))).trans (hHeld.2.2.1)
                              have HS3_ := (hb.cell (World.block_lt_of_cell? _ _ (hHeld.2.2.2))).trans (hHeld.2.2.2)
                              refine ⟨_, rfl, ?_⟩
                              have n0_ := Aside0.mk (Kd.N_below (by (with_reducible repeat (first | apply Kd.N_alloc | apply Kd.N_drewN | apply Kd.N_drew)); exact HO_7.out) hb)
                              have n1_ := Aside0.mk (Kd.N_below (by (with_reducible repeat (first | apply Kd.N_alloc | apply Kd.N_drewN | apply Kd.N_drew)); exact HO_9.out) hb)
                              have n2_ := Aside0.mk (Kd.V_below (by (with_reducible repeat (first | apply Kd.V_alloc | apply Kd.V_drewN | apply Kd.V_drew)); exact HL506_1.out) hb)
                              have n3_ := Aside0.mk (Kd.V_below (by (with_reducible repeat (first | apply Kd.V_alloc | apply Kd.V_drewN | apply Kd.V_drew)); exact HL507_1.out) hb)
                              have n4_ := Aside0.mk (blk_below (g := gb495) (o := .cells #[.int .i64 a0_0, .int .i64 a0_1] 23 (0, 0)) (by (with_reducible repeat (first | refine blk_drewN ?_ _ | refine blk_drew ?_ | refine blk_alloc ?_ _)); exact BK495.out) hb)
                              have n5_ := Aside0.mk (Kd.C_below (by repeat (first | (with_reducible exact HR506_1.out) | (with_reducible refine Kd.C_alloc ?_ _) | (with_reducible refine Kd.C_drewN ?_ _) | (with_reducible refine Kd.C_drew ?_) | exact HR506_1.out)) hb)
                              have n6_ := Aside0.mk (Kd.C_below (by repeat (first | (with_reducible exact HR507_1.out) | (with_reducible refine Kd.C_alloc ?_ _) | (with_reducible refine Kd.C_drewN ?_ _) | (with_reducible refine Kd.C_drew ?_) | exact HR507_1.out)) hb)
                              have n7_ := Aside0.mk (below_step (by repeat (first | (with_reducible first | exact HB.out | apply below_alloc | apply pw_below_drewN | apply below_drew1 | refine below_set ?_ GE495.out) | exact HB.out)) hb)
                              clear HO_7
                              clear HO_9
                              clear HL506_1
                              clear HL507_1
                              clear BK495
                              clear HR506_1
                              clear HR507_1
                              clear HB
                              have HO_7 := n0_
                              have HO_9 := n1_
                              have HL506_1 := n2_
                              have HL507_1 := n3_
                              have BK495 := n4_
                              have HR506_1 := n5_
                              have HR507_1 := n6_
                              have HB := n7_
                              clear n0_ n1_ n2_ n3_ n4_ n5_ n6_ n7_
                              (try clear hb)
                              (try clear hb2)
                              (try clear hk)
                              (try clear hi)
                              refine hK.out _ _ ⟨HS0_, HS1_, HS2_, HS3_⟩ (fun hHeld => ?_)
                              clear hK K
                              refine norm_ (a' := ?_) ?_ ?_
                              rotate_left
                              · show Act.put _ (some 69) _ = _
                                simp only [Act.put, List.setIfInBounds_toArray, List.set_cons_zero, List.set_cons_succ, i64_w, i32_w]
                                rfl
                              refine pure_ (i := 9) (N := some 70) (v := ?_) (a' := ?_) #[true, true, true, true, true, true, true, true, true, true] rfl rfl (any_of HT_.out (by kernel_rfl)) (fun _ _ _ h => h) (Or.inl ⟨by rfl, ?_⟩) ?_ ?_
                              rotate_left
                              · intro w'
                                go_simp
                                with_reducible rfl
                              rotate_left
                              · simp only [Act.put, List.setIfInBounds_toArray, List.set_cons_zero, List.set_cons_succ, i64_w, i32_w]
                                rfl
                              refine done_ (done_of HT_.out (by kernel_rfl)) ?_
                              try go_wp2
                              go_roundg k3
                              case measure => have := HJ6.out; have := HJ27.out; have := HK3.out; omega
                              case rel => exact ⟨(wrap64 (x10_3 + 1)), (by first | rfl | (simp; done) | (simp [*]; done)), H', ⟨by have := HJ6.out; have := HJ27.out; have := HK3.out; omega⟩, ⟨by (with_reducible repeat (first | apply Kd.N_alloc | apply Kd.N_drewN | apply Kd.N_drew)); exact HO_7.out⟩, ⟨by (with_reducible repeat (first | apply Kd.N_alloc | apply Kd.N_drewN | apply Kd.N_drew)); exact HO_9.out⟩, ⟨by (with_reducible repeat (first | refine blk_drewN ?_ _ | refine blk_drew ?_ | refine blk_alloc ?_ _)); exact BK495.out⟩, ⟨by repeat (first | (with_reducible first | exact HB.out | apply below_alloc | apply pw_below_drewN | apply below_drew1 | refine below_set ?_ GE495.out) | exact HB.out)⟩⟩
                            · replace c39 := Bool.eq_false_iff.mpr c39
                              subst c39
                              have H1 : (some false) = some r := by rw [if_neg (show ¬ (false = true) by decide)] at H; exact H
                              clear H
                              have H := H1
                              clear H1
                              obtain rfl := Option.some.inj H
                              exact absurd hT.out (by simp)
                          · rw [if_neg c37] at H
                            exact absurd H (by simp)
                        · rw [if_neg c36] at H
                          exact absurd H (by simp)
                      · rw [if_neg c35] at H
                        exact absurd H (by simp)
                    · rw [if_neg c34] at H
                      have c34b0 : decide (x10_3 < a1) = false := decide_eq_false c34
                      clear c34
                      have HC44 := Aside0.mk H
                      clear H
                      have hcz45_0 : wr.cell? ⟨gb495, 0, none⟩ = some (.int .i64 a0_0) := (blk_cell BK495.out 0).trans rfl
                      have hcz45_1 : wr.cell? ⟨gb495, 1, none⟩ = some (.int .i64 a0_1) := (blk_cell BK495.out 1).trans rfl
                      have hfz45_0 := blk_frozen BK495.out 0
                      have hfz45_1 := blk_frozen BK495.out 1
                      go_upto_region 15 with (first | ((with_reducible refine gate_dst (N := 11) rfl ?_); (try (refine gate_guard (by rfl) ?_; dsimp only)); refine box_event ?hg (N := 11) ?hd (cs := #[.int .i64 0, .int .i64 0]) (t := 23) ?hr ?_; (case hd => rfl); (case hg => rfl); (case hr => first | (go_simp; done) | (go_simp; rfl)); intro gb509 hg w46 hbox hb; have n0_ := Aside0.mk (Kd.N_below (Kd.N_elderB (by (with_reducible repeat (first | apply Kd.N_alloc | apply Kd.N_drewN | apply Kd.N_drew)); exact HO_7.out) gb509 (Nat.le_of_eq hg.symm)) hb); have n1_ := Aside0.mk (Kd.N_below (Kd.N_elderB (by (with_reducible repeat (first | apply Kd.N_alloc | apply Kd.N_drewN | apply Kd.N_drew)); exact HO_9.out) gb509 (Nat.le_of_eq hg.symm)) hb); have n2_ := Aside0.mk (blk_below (g := gb495) (o := .cells #[.int .i64 a0_0, .int .i64 a0_1] 23 (0, 0)) (by (with_reducible repeat (first | refine blk_drewN ?_ _ | refine blk_drew ?_ | refine blk_alloc ?_ _)); exact BK495.out) hb); have n3_ := Aside0.mk (below_step (by repeat (first | (with_reducible first | exact HB.out | apply below_alloc | apply pw_below_drewN | apply below_drew1 | refine below_set ?_ GE495.out) | exact HB.out)) hb); have n4_ := Aside0.mk (hbox); have n5_ := Aside0.mk ((by rw [hg]; exact (below_size (by repeat (first | (with_reducible first | exact HB.out | apply below_alloc | apply pw_below_drewN | apply below_drew1 | refine below_set ?_ GE495.out) | exact HB.out))) : w.heap.size ≤ gb509)); have n6_ := Aside0.mk ((by rw [hg]; exact (below_size (by repeat (first | (with_reducible first | exact HB.out | apply below_alloc | apply pw_below_drewN | apply below_drew1 | refine below_set ?_ GE495.out) | exact HB.out))) : w.heap.size ≤ gb509)); have n7_ := Aside0.mk ((by rw [hg]; exact Nat.ne_of_lt (blk_lt (g := gb495) (o := .cells #[.int .i64 a0_0, .int .i64 a0_1] 23 (0, 0)) (by (with_reducible repeat (first | refine blk_drewN ?_ _ | refine blk_drew ?_ | refine blk_alloc ?_ _)); exact BK495.out)) : gb495 ≠ gb509)); have n8_ := Aside0.mk ((by rw [hg]; exact Nat.ne_of_gt (blk_lt (g := gb495) (o := .cells #[.int .i64 a0_0, .int .i64 a0_1] 23 (0, 0)) (by (with_reducible repeat (first | refine blk_drewN ?_ _ | refine blk_drew ?_ | refine blk_alloc ?_ _)); exact BK495.out)) : gb509 ≠ gb495)); clear HO_7; clear HO_9; clear BK495; clear HB; have HO_7 := n0_; have HO_9 := n1_; have BK495 := n2_; have HB := n3_; have BK509 := n4_; have GW509 := n5_; have GE509 := n6_; have NB495_509 := n7_; have NB509_495 := n8_; clear n0_ n1_ n2_ n3_ n4_ n5_ n6_ n7_ n8_; clear hb hbox hg; have hnb47 := NB509_495.out; have hnc47 := NB495_509.out; have hcz48_0 : w46.cell? ⟨gb509, 0, none⟩ = some (.int .i64 0) := (blk_cell BK509.out 0).trans rfl; have hcz48_1 : w46.cell? ⟨gb509, 1, none⟩ = some (.int .i64 0) := (blk_cell BK509.out 1).trans rfl; have hfz48_0 := blk_frozen BK509.out 0; have hfz48_1 := blk_frozen BK509.out 1))
                      (try simp only [Act.put, List.setIfInBounds_toArray, List.set_cons_zero, List.set_cons_succ])
                      go_cut [88] (fun v88 wc => ∃ (kq : Nat) (x88_43 : Bool), v88 = .bool x88_43 ∧ Aside0 (swagelaw06_PointPowers.j3 kq a1 a2 t497 x88_43 (wrap64 (a0_0 * (Int.tmod a2 17))) (wrap64 (a0_1 * (Int.tmod a2 17))) = some r) ∧ Aside0 (kq ≤ k3) ∧ Aside0 (Kd.N k57 57 wc w.heap.size (fun k_ => k_ ≠ gb495 ∧ k_ ≠ gb509) v498 t497) ∧ Aside0 (wc.heap[gb495]? = some (.cells #[.int .i64 a0_0, .int .i64 a0_1] 23 (0, 0))) ∧ Aside0 (wc.heap[gb509]? = some (.cells #[.int .i64 (wrap64 (a0_0 * (Int.tmod a2 17))), .int .i64 (wrap64 (a0_1 * (Int.tmod a2 17)))] 23 (0, 0))) ∧ Aside0 (Below w.heap.size w wc))
                      case first =>
                        have H := HC44.out
                        clear HC44
                        replace H := Option.bind_eq_some_iff.mp H
                        obtain ⟨t510, A490, H⟩ := H
                        replace H : (if t510 = true then (swagelaw06_PointPowers.j3 k3 a1 a2 t497 (decide (a1 < 1)) (wrap64 (a0_0 * (Int.tmod a2 17))) (wrap64 (a0_1 * (Int.tmod a2 17)))) else (swagelaw06_PointPowers.j3 k3 a1 a2 t497 true (wrap64 (a0_0 * (Int.tmod a2 17))) (wrap64 (a0_1 * (Int.tmod a2 17))))) = some r := H
                        have A49 := Aside0.mk A490
                        clear A490
                        by_cases c50 : t510 = true
                        · subst c50
                          have H1 : (swagelaw06_PointPowers.j3 k3 a1 a2 t497 (decide (a1 < 1)) (wrap64 (a0_0 * (Int.tmod a2 17))) (wrap64 (a0_1 * (Int.tmod a2 17)))) = some r := by rw [if_pos rfl] at H; exact H
                          clear H
                          have H := H1
                          clear H1
                          have H' := Aside0.mk H
                          clear H
                          have hnb51 := NB509_495.out
                          have hnc51 := NB495_509.out
                          have hcz52_0 : w46.cell? ⟨gb509, 0, none⟩ = some (.int .i64 0) := (blk_cell BK509.out 0).trans rfl
                          have hcz52_1 : w46.cell? ⟨gb509, 1, none⟩ = some (.int .i64 0) := (blk_cell BK509.out 1).trans rfl
                          have hfz52_0 := blk_frozen BK509.out 0
                          have hfz52_1 := blk_frozen BK509.out 1
                          go_wp2_with (first | ((with_reducible refine gate_callee (f := 9) rfl ?_); refine goesL_ (some 83) rfl rfl Try.func9 (by kernel_rfl) rfl #[.agg #[.int .i64 (wrap64 (a0_0 * (Int.tmod a2 17))), .int .i64 (wrap64 (a0_1 * (Int.tmod a2 17)))]] rfl (by (try simp only [List.map_toArray, List.map_cons, List.map_nil]); first | done | rfl | (simp only [List.length_drop, List.length_take]; rfl)) ?_; (with_reducible refine (swageref06_In.calls (wrap64 (a0_0 * (Int.tmod a2 17))) (wrap64 (a0_1 * (Int.tmod a2 17))) true _ A49.out).mono ?_); rintro e w53 ⟨rfl, hb⟩; refine ⟨_, rfl, ?_⟩; have n0_ := Aside0.mk (Kd.N_below (by (with_reducible repeat (first | apply Kd.N_alloc | apply Kd.N_drewN | apply Kd.N_drew)); exact (Kd.N_mono (Kd.N_far (p := ⟨gb509, 1, none⟩) (Kd.N_far (p := ⟨gb509, 0, none⟩) (Kd.N_mono HO_7.out (fun k_ hk => (⟨hk, hk.2⟩ : _ ∧ k_ ≠ gb509))) (fun _ hk => hk.2) (.int .i64 (wrap64 (a0_0 * (Int.tmod a2 17))))) (fun _ hk => hk.2) (.int .i64 (wrap64 (a0_1 * (Int.tmod a2 17))))) (fun _ h_ => h_.1))) hb); have n1_ := Aside0.mk (Kd.N_below (by (with_reducible repeat (first | apply Kd.N_alloc | apply Kd.N_drewN | apply Kd.N_drew)); exact (Kd.N_mono (Kd.N_far (p := ⟨gb509, 1, none⟩) (Kd.N_far (p := ⟨gb509, 0, none⟩) (Kd.N_mono HO_9.out (fun k_ hk => (⟨hk, hk.2⟩ : _ ∧ k_ ≠ gb509))) (fun _ hk => hk.2) (.int .i64 (wrap64 (a0_0 * (Int.tmod a2 17))))) (fun _ hk => hk.2) (.int .i64 (wrap64 (a0_1 * (Int.tmod a2 17))))) (fun _ h_ => h_.1))) hb); have n2_ := Aside0.mk (blk_below (g := gb495) (o := .cells #[.int .i64 a0_0, .int .i64 a0_1] 23 (0, 0)) (by (with_reducible repeat (first | refine blk_drewN ?_ _ | refine blk_drew ?_ | refine blk_alloc ?_ _)); refine blk_far ?_ NB495_509.out _; (with_reducible repeat (first | refine blk_drewN ?_ _ | refine blk_drew ?_ | refine blk_alloc ?_ _)); refine blk_far ?_ NB495_509.out _; (with_reducible repeat (first | refine blk_drewN ?_ _ | refine blk_drew ?_ | refine blk_alloc ?_ _)); exact BK495.out) hb); have n3_ := Aside0.mk (blk_below (g := gb509) (o := .cells #[.int .i64 (wrap64 (a0_0 * (Int.tmod a2 17))), .int .i64 (wrap64 (a0_1 * (Int.tmod a2 17)))] 23 (0, 0)) (by (with_reducible repeat (first | refine blk_drewN ?_ _ | refine blk_drew ?_ | refine blk_alloc ?_ _)); refine blk_put (cs := #[.int .i64 (wrap64 (a0_0 * (Int.tmod a2 17))), .int .i64 0]) ?_ 1 _ rfl; (with_reducible repeat (first | refine blk_drewN ?_ _ | refine blk_drew ?_ | refine blk_alloc ?_ _)); refine blk_put (cs := #[.int .i64 0, .int .i64 0]) ?_ 0 _ rfl; (with_reducible repeat (first | refine blk_drewN ?_ _ | refine blk_drew ?_ | refine blk_alloc ?_ _)); exact BK509.out) hb); have n4_ := Aside0.mk (below_step (by repeat (first | (with_reducible first | exact HB.out | apply below_alloc | apply pw_below_drewN | apply below_drew1 | refine below_set ?_ GE495.out | refine below_set ?_ GE509.out) | exact HB.out)) hb); clear HO_7; clear HO_9; clear BK495; clear BK509; clear HB; have HO_7 := n0_; have HO_9 := n1_; have BK495 := n2_; have BK509 := n3_; have HB := n4_; clear n0_ n1_ n2_ n3_ n4_; (try clear hb); (try clear hb2); (try clear hk); (try clear hi)))
                          go_meet
                          case rel => exact ⟨_, (decide (a1 < 1)), (by first | rfl | (simp; done) | (simp [*]; done)), H', ⟨by have := HJ6.out; have := HJ27.out; have := HK3.out; first | omega | exact Nat.le_refl _⟩, ⟨by (with_reducible repeat (first | apply Kd.N_alloc | apply Kd.N_drewN | apply Kd.N_drew)); exact Kd.N_mono HO_7.out (fun _ hk => ⟨hk.1.2, hk.2⟩)⟩, ⟨by (with_reducible repeat (first | refine blk_drewN ?_ _ | refine blk_drew ?_ | refine blk_alloc ?_ _)); exact BK495.out⟩, ⟨by (with_reducible repeat (first | refine blk_drewN ?_ _ | refine blk_drew ?_ | refine blk_alloc ?_ _)); exact BK509.out⟩, ⟨by repeat (first | (with_reducible first | exact HB.out | apply below_alloc | apply pw_below_drewN | apply below_drew1 | refine below_set ?_ GE495.out | refine below_set ?_ GE509.out) | exact HB.out)⟩⟩
                        · replace c50 := Bool.eq_false_iff.mpr c50
                          subst c50
                          have H1 : (swagelaw06_PointPowers.j3 k3 a1 a2 t497 true (wrap64 (a0_0 * (Int.tmod a2 17))) (wrap64 (a0_1 * (Int.tmod a2 17)))) = some r := by rw [if_neg (show ¬ (false = true) by decide)] at H; exact H
                          clear H
                          have H := H1
                          clear H1
                          have H' := Aside0.mk H
                          clear H
                          have hnb54 := NB509_495.out
                          have hnc54 := NB495_509.out
                          have hcz55_0 : w46.cell? ⟨gb509, 0, none⟩ = some (.int .i64 0) := (blk_cell BK509.out 0).trans rfl
                          have hcz55_1 : w46.cell? ⟨gb509, 1, none⟩ = some (.int .i64 0) := (blk_cell BK509.out 1).trans rfl
                          have hfz55_0 := blk_frozen BK509.out 0
                          have hfz55_1 := blk_frozen BK509.out 1
                          go_wp2_with (first | ((with_reducible refine gate_callee (f := 9) rfl ?_); refine goesL_ (some 83) rfl rfl Try.func9 (by kernel_rfl) rfl #[.agg #[.int .i64 (wrap64 (a0_0 * (Int.tmod a2 17))), .int .i64 (wrap64 (a0_1 * (Int.tmod a2 17)))]] rfl (by (try simp only [List.map_toArray, List.map_cons, List.map_nil]); first | done | rfl | (simp only [List.length_drop, List.length_take]; rfl)) ?_; (with_reducible refine (swageref06_In.calls (wrap64 (a0_0 * (Int.tmod a2 17))) (wrap64 (a0_1 * (Int.tmod a2 17))) false _ A49.out).mono ?_); rintro e w56 ⟨rfl, hb⟩; refine ⟨_, rfl, ?_⟩; have n0_ := Aside0.mk (Kd.N_below (by (with_reducible repeat (first | apply Kd.N_alloc | apply Kd.N_drewN | apply Kd.N_drew)); exact (Kd.N_mono (Kd.N_far (p := ⟨gb509, 1, none⟩) (Kd.N_far (p := ⟨gb509, 0, none⟩) (Kd.N_mono HO_7.out (fun k_ hk => (⟨hk, hk.2⟩ : _ ∧ k_ ≠ gb509))) (fun _ hk => hk.2) (.int .i64 (wrap64 (a0_0 * (Int.tmod a2 17))))) (fun _ hk => hk.2) (.int .i64 (wrap64 (a0_1 * (Int.tmod a2 17))))) (fun _ h_ => h_.1))) hb); have n1_ := Aside0.mk (Kd.N_below (by (with_reducible repeat (first | apply Kd.N_alloc | apply Kd.N_drewN | apply Kd.N_drew)); exact (Kd.N_mono (Kd.N_far (p := ⟨gb509, 1, none⟩) (Kd.N_far (p := ⟨gb509, 0, none⟩) (Kd.N_mono HO_9.out (fun k_ hk => (⟨hk, hk.2⟩ : _ ∧ k_ ≠ gb509))) (fun _ hk => hk.2) (.int .i64 (wrap64 (a0_0 * (Int.tmod a2 17))))) (fun _ hk => hk.2) (.int .i64 (wrap64 (a0_1 * (Int.tmod a2 17))))) (fun _ h_ => h_.1))) hb); have n2_ := Aside0.mk (blk_below (g := gb495) (o := .cells #[.int .i64 a0_0, .int .i64 a0_1] 23 (0, 0)) (by (with_reducible repeat (first | refine blk_drewN ?_ _ | refine blk_drew ?_ | refine blk_alloc ?_ _)); refine blk_far ?_ NB495_509.out _; (with_reducible repeat (first | refine blk_drewN ?_ _ | refine blk_drew ?_ | refine blk_alloc ?_ _)); refine blk_far ?_ NB495_509.out _; (with_reducible repeat (first | refine blk_drewN ?_ _ | refine blk_drew ?_ | refine blk_alloc ?_ _)); exact BK495.out) hb); have n3_ := Aside0.mk (blk_below (g := gb509) (o := .cells #[.int .i64 (wrap64 (a0_0 * (Int.tmod a2 17))), .int .i64 (wrap64 (a0_1 * (Int.tmod a2 17)))] 23 (0, 0)) (by (with_reducible repeat (first | refine blk_drewN ?_ _ | refine blk_drew ?_ | refine blk_alloc ?_ _)); refine blk_put (cs := #[.int .i64 (wrap64 (a0_0 * (Int.tmod a2 17))), .int .i64 0]) ?_ 1 _ rfl; (with_reducible repeat (first | refine blk_drewN ?_ _ | refine blk_drew ?_ | refine blk_alloc ?_ _)); refine blk_put (cs := #[.int .i64 0, .int .i64 0]) ?_ 0 _ rfl; (with_reducible repeat (first | refine blk_drewN ?_ _ | refine blk_drew ?_ | refine blk_alloc ?_ _)); exact BK509.out) hb); have n4_ := Aside0.mk (below_step (by repeat (first | (with_reducible first | exact HB.out | apply below_alloc | apply pw_below_drewN | apply below_drew1 | refine below_set ?_ GE495.out | refine below_set ?_ GE509.out) | exact HB.out)) hb); clear HO_7; clear HO_9; clear BK495; clear BK509; clear HB; have HO_7 := n0_; have HO_9 := n1_; have BK495 := n2_; have BK509 := n3_; have HB := n4_; clear n0_ n1_ n2_ n3_ n4_; (try clear hb); (try clear hb2); (try clear hk); (try clear hi)))
                          go_meet
                          case rel => exact ⟨_, (true), (by first | rfl | (simp; done) | (simp [*]; done)), H', ⟨by have := HJ6.out; have := HJ27.out; have := HK3.out; first | omega | exact Nat.le_refl _⟩, ⟨by (with_reducible repeat (first | apply Kd.N_alloc | apply Kd.N_drewN | apply Kd.N_drew)); exact Kd.N_mono HO_7.out (fun _ hk => ⟨hk.1.2, hk.2⟩)⟩, ⟨by (with_reducible repeat (first | refine blk_drewN ?_ _ | refine blk_drew ?_ | refine blk_alloc ?_ _)); exact BK495.out⟩, ⟨by (with_reducible repeat (first | refine blk_drewN ?_ _ | refine blk_drew ?_ | refine blk_alloc ?_ _)); exact BK509.out⟩, ⟨by repeat (first | (with_reducible first | exact HB.out | apply below_alloc | apply pw_below_drewN | apply below_drew1 | refine below_set ?_ GE495.out | refine below_set ?_ GE509.out) | exact HB.out)⟩⟩
                      case rest =>
                        clear HC44
                        try clear c5
                        try clear c21
                        try clear c33
                        try clear c34
                        obtain ⟨kq, x88_43, rfl, HA, HJ43, HO_7, BK495, BK509, HB⟩ := hcut
                        cases kq with
                        | zero => exact absurd HA.out (by simp [swagelaw06_PointPowers.j3])
                        | succ kj43 =>
                          have H := HA.out
                          clear HA
                          simp only [swagelaw06_PointPowers.j3] at H
                          by_cases c57 : x88_43 = true
                          · subst c57
                            have H1 : (some true) = some r := by rw [if_pos rfl] at H; exact H
                            clear H
                            have H := H1
                            clear H1
                            obtain rfl := Option.some.inj H
                            go_wp2
                            go_ret
                            exact ⟨by first | rfl | (simp [errW_none, errW_some] <;> rfl) | (simp [*, errW_none, errW_some] <;> rfl), by repeat (first | (with_reducible first | exact HB.out | apply below_alloc | apply pw_below_drewN | apply below_drew1 | refine below_set ?_ GE495.out | refine below_set ?_ GE509.out) | exact HB.out)⟩
                          · replace c57 := Bool.eq_false_iff.mpr c57
                            subst c57
                            have H1 : ((point_Powers.f kj43 (wrap64 (a0_0 * (Int.tmod a2 17))) (wrap64 (a0_1 * (Int.tmod a2 17))) a1).bind fun bt511 => ((integer_Of.f kj43 (Int.tmod a2 17)).bind fun bt515 => ((integer_Int_Pow.f kj43 bt515.1 bt515.2 (wrap64 (a1 - 1))).bind fun bt519 => (if bt511.2 = 0 then (if bt519.2.2 = 0 then (swagelaw06_PointPowers.j4 kj43 a1 t497 bt511.1 ((bt511.1.length : Int) != a1) bt519.1 bt519.2.1) else (swagelaw06_PointPowers.j4 kj43 a1 t497 bt511.1 true bt519.1 bt519.2.1)) else (swagelaw06_PointPowers.j4 kj43 a1 t497 bt511.1 true bt519.1 bt519.2.1))))) = some r := by rw [if_neg (show ¬ (false = true) by decide)] at H; exact H
                            clear H
                            have H := H1
                            clear H1
                            replace H := Option.bind_eq_some_iff.mp H
                            obtain ⟨⟨t511, t514⟩, A580, H⟩ := H
                            replace H : ((integer_Of.f kj43 (Int.tmod a2 17)).bind fun bt515 => ((integer_Int_Pow.f kj43 bt515.1 bt515.2 (wrap64 (a1 - 1))).bind fun bt519 => (if t514 = 0 then (if bt519.2.2 = 0 then (swagelaw06_PointPowers.j4 kj43 a1 t497 t511 ((t511.length : Int) != a1) bt519.1 bt519.2.1) else (swagelaw06_PointPowers.j4 kj43 a1 t497 t511 true bt519.1 bt519.2.1)) else (swagelaw06_PointPowers.j4 kj43 a1 t497 t511 true bt519.1 bt519.2.1)))) = some r := H
                            have A58 := Aside0.mk A580
                            clear A580
                            replace H := Option.bind_eq_some_iff.mp H
                            obtain ⟨⟨t515, t516⟩, A590, H⟩ := H
                            replace H : ((integer_Int_Pow.f kj43 t515 t516 (wrap64 (a1 - 1))).bind fun bt519 => (if t514 = 0 then (if bt519.2.2 = 0 then (swagelaw06_PointPowers.j4 kj43 a1 t497 t511 ((t511.length : Int) != a1) bt519.1 bt519.2.1) else (swagelaw06_PointPowers.j4 kj43 a1 t497 t511 true bt519.1 bt519.2.1)) else (swagelaw06_PointPowers.j4 kj43 a1 t497 t511 true bt519.1 bt519.2.1))) = some r := H
                            have A59 := Aside0.mk A590
                            clear A590
                            replace H := Option.bind_eq_some_iff.mp H
                            obtain ⟨⟨t519, t520, t523⟩, A600, H⟩ := H
                            replace H : (if t514 = 0 then (if t523 = 0 then (swagelaw06_PointPowers.j4 kj43 a1 t497 t511 ((t511.length : Int) != a1) t519 t520) else (swagelaw06_PointPowers.j4 kj43 a1 t497 t511 true t519 t520)) else (swagelaw06_PointPowers.j4 kj43 a1 t497 t511 true t519 t520)) = some r := H
                            have A60 := Aside0.mk A600
                            clear A600
                            have HC61 := Aside0.mk H
                            clear H
                            have hnb62 := NB509_495.out
                            have hnc62 := NB495_509.out
                            have hcz63_0 : wc.cell? ⟨gb509, 0, none⟩ = some (.int .i64 (wrap64 (a0_0 * (Int.tmod a2 17)))) := (blk_cell BK509.out 0).trans rfl
                            have hcz63_1 : wc.cell? ⟨gb509, 1, none⟩ = some (.int .i64 (wrap64 (a0_1 * (Int.tmod a2 17)))) := (blk_cell BK509.out 1).trans rfl
                            have hfz63_0 := blk_frozen BK509.out 0
                            have hfz63_1 := blk_frozen BK509.out 1
                            go_upto_region 19 with (first | ((with_reducible refine gate_callee (f := 25) rfl ?_); refine goesL_ (some 92) rfl rfl Try.func25 (by kernel_rfl) rfl #[.agg #[.int .i64 (wrap64 (a0_0 * (Int.tmod a2 17))), .int .i64 (wrap64 (a0_1 * (Int.tmod a2 17)))], .int .i64 a1] rfl (by (try simp only [List.map_toArray, List.map_cons, List.map_nil]); first | done | rfl | (simp only [List.length_drop, List.length_take]; rfl)) ?_; (with_reducible refine (point_Powers.calls kj43 (wrap64 (a0_0 * (Int.tmod a2 17))) (wrap64 (a0_1 * (Int.tmod a2 17))) a1 t511 t514 _ A58.out).mono ?_); rintro e w64 ⟨v512, rfl, ho0, hb⟩; refine ⟨_, rfl, ?_⟩; have n0_ := Aside0.mk (Kd.N_elder' (by (with_reducible repeat (first | apply Kd.N_alloc | apply Kd.N_drewN | apply Kd.N_drew)); exact HO_7.out) (Kd.N_base ho0) hb); have n1_ := Aside0.mk (Kd.N_lower (Kd.N_mono (ok' := fun k_ => some k_ ≠ (v498 : Value).ownBlock ∧ k_ ≠ gb495 ∧ k_ ≠ gb509) ho0 (fun k_ hk_ => ⟨(Kd.fresh' (Kd.N_lt (by (with_reducible repeat (first | apply Kd.N_alloc | apply Kd.N_drewN | apply Kd.N_drew)); exact HO_7.out)) k_ hk_), (Kd.freshB (g := gb495) (o := .cells #[.int .i64 a0_0, .int .i64 a0_1] 23 (0, 0)) (by (with_reducible repeat (first | refine blk_drewN ?_ _ | refine blk_drew ?_ | refine blk_alloc ?_ _)); exact BK495.out) k_ hk_), (Kd.freshB (g := gb509) (o := .cells #[.int .i64 (wrap64 (a0_0 * (Int.tmod a2 17))), .int .i64 (wrap64 (a0_1 * (Int.tmod a2 17)))] 23 (0, 0)) (by (with_reducible repeat (first | refine blk_drewN ?_ _ | refine blk_drew ?_ | refine blk_alloc ?_ _)); exact BK509.out) k_ hk_)⟩)) (below_size (by repeat (first | (with_reducible first | exact HB.out | apply below_alloc | apply pw_below_drewN | apply below_drew1 | refine below_set ?_ GE495.out | refine below_set ?_ GE509.out) | exact HB.out)))); have n2_ := Aside0.mk (blk_below (g := gb495) (o := .cells #[.int .i64 a0_0, .int .i64 a0_1] 23 (0, 0)) (by (with_reducible repeat (first | refine blk_drewN ?_ _ | refine blk_drew ?_ | refine blk_alloc ?_ _)); exact BK495.out) hb); have n3_ := Aside0.mk (blk_below (g := gb509) (o := .cells #[.int .i64 (wrap64 (a0_0 * (Int.tmod a2 17))), .int .i64 (wrap64 (a0_1 * (Int.tmod a2 17)))] 23 (0, 0)) (by (with_reducible repeat (first | refine blk_drewN ?_ _ | refine blk_drew ?_ | refine blk_alloc ?_ _)); exact BK509.out) hb); have n4_ := Aside0.mk (below_step (by repeat (first | (with_reducible first | exact HB.out | apply below_alloc | apply pw_below_drewN | apply below_drew1 | refine below_set ?_ GE495.out | refine below_set ?_ GE509.out) | exact HB.out)) hb); clear HO_7; clear BK495; clear BK509; clear HB; have HO_7 := n0_; have HO513 := n1_; have BK495 := n2_; have BK509 := n3_; have HB := n4_; clear n0_ n1_ n2_ n3_ n4_; (try clear hb); (try clear hb2); (try clear hk); (try clear hi); (try clear ho0)) | ((with_reducible refine gate_callee (f := 28) rfl ?_); refine goesL_ (some 98) rfl rfl Try.func28 (by kernel_rfl) rfl #[.int .i64 (Int.tmod a2 17)] rfl (by (try simp only [List.map_toArray, List.map_cons, List.map_nil]); first | done | rfl | (simp only [List.length_drop, List.length_take]; rfl)) ?_; (with_reducible refine (integer_Of.calls kj43 (Int.tmod a2 17) t515 t516 _ A59.out).mono ?_); rintro e w65 ⟨v517, rfl, ho0, hb⟩; refine ⟨_, rfl, ?_⟩; have n0_ := Aside0.mk (Kd.N_below (by (with_reducible repeat (first | apply Kd.N_alloc | apply Kd.N_drewN | apply Kd.N_drew)); exact HO_7.out) hb); have n1_ := Aside0.mk (Kd.N_below (by (with_reducible repeat (first | apply Kd.N_alloc | apply Kd.N_drewN | apply Kd.N_drew)); exact HO513.out) hb); have n2_ := Aside0.mk (Kd.V_lower (Kd.V_mono (ok' := fun k_ => some k_ ≠ (v498 : Value).ownBlock ∧ some k_ ≠ (v512 : Value).ownBlock ∧ k_ ≠ gb495 ∧ k_ ≠ gb509) ho0 (fun k_ hk_ => ⟨(Kd.fresh' (Kd.N_lt (by (with_reducible repeat (first | apply Kd.N_alloc | apply Kd.N_drewN | apply Kd.N_drew)); exact HO_7.out)) k_ hk_), (Kd.fresh' (Kd.N_lt (by (with_reducible repeat (first | apply Kd.N_alloc | apply Kd.N_drewN | apply Kd.N_drew)); exact HO513.out)) k_ hk_), (Kd.freshB (g := gb495) (o := .cells #[.int .i64 a0_0, .int .i64 a0_1] 23 (0, 0)) (by (with_reducible repeat (first | refine blk_drewN ?_ _ | refine blk_drew ?_ | refine blk_alloc ?_ _)); exact BK495.out) k_ hk_), (Kd.freshB (g := gb509) (o := .cells #[.int .i64 (wrap64 (a0_0 * (Int.tmod a2 17))), .int .i64 (wrap64 (a0_1 * (Int.tmod a2 17)))] 23 (0, 0)) (by (with_reducible repeat (first | refine blk_drewN ?_ _ | refine blk_drew ?_ | refine blk_alloc ?_ _)); exact BK509.out) k_ hk_)⟩)) (below_size (by repeat (first | (with_reducible first | exact HB.out | apply below_alloc | apply pw_below_drewN | apply below_drew1 | refine below_set ?_ GE495.out | refine below_set ?_ GE509.out) | exact HB.out)))); have n3_ := Aside0.mk (blk_below (g := gb495) (o := .cells #[.int .i64 a0_0, .int .i64 a0_1] 23 (0, 0)) (by (with_reducible repeat (first | refine blk_drewN ?_ _ | refine blk_drew ?_ | refine blk_alloc ?_ _)); exact BK495.out) hb); have n4_ := Aside0.mk (blk_below (g := gb509) (o := .cells #[.int .i64 (wrap64 (a0_0 * (Int.tmod a2 17))), .int .i64 (wrap64 (a0_1 * (Int.tmod a2 17)))] 23 (0, 0)) (by (with_reducible repeat (first | refine blk_drewN ?_ _ | refine blk_drew ?_ | refine blk_alloc ?_ _)); exact BK509.out) hb); have n5_ := Aside0.mk (below_step (by repeat (first | (with_reducible first | exact HB.out | apply below_alloc | apply pw_below_drewN | apply below_drew1 | refine below_set ?_ GE495.out | refine below_set ?_ GE509.out) | exact HB.out)) hb); clear HO_7; clear HO513; clear BK495; clear BK509; clear HB; have HO_7 := n0_; have HO513 := n1_; have HO518 := n2_; have BK495 := n3_; have BK509 := n4_; have HB := n5_; clear n0_ n1_ n2_ n3_ n4_ n5_; (try clear hb); (try clear hb2); (try clear hk); (try clear hi); (try clear ho0); obtain ⟨Ao66, co66, eo66⟩ := Kd.V_slice HO518.out; subst eo66) | ((with_reducible refine gate_callee (f := 29) rfl ?_); refine goesL_ (some 101) rfl rfl Try.func29 (by kernel_rfl) rfl #[.agg #[.bool t515, .slice Ao66 t516.length co66], .int .i64 (wrap64 (a1 - 1))] rfl (by (try simp only [List.map_toArray, List.map_cons, List.map_nil]); first | done | rfl | (simp only [List.length_drop, List.length_take]; rfl)) ?_; (with_reducible refine (integer_Int_Pow.calls kj43 t515 (fun k_ => (some k_ ≠ (v498 : Value).ownBlock ∧ (some k_ ≠ (v512 : Value).ownBlock ∧ (k_ ≠ gb495 ∧ k_ ≠ gb509)))) _ _ t516 (wrap64 (a1 - 1)) t519 t520 t523 _ ?side1 A60.out).mono ?_); (case side1 => exact HO518.out); rintro e w67 ⟨v521, rfl, ho0, hb⟩; refine ⟨_, rfl, ?_⟩; have n0_ := Aside0.mk (Kd.N_below (by (with_reducible repeat (first | apply Kd.N_alloc | apply Kd.N_drewN | apply Kd.N_drew)); exact HO_7.out) hb); have n1_ := Aside0.mk (Kd.N_below (by (with_reducible repeat (first | apply Kd.N_alloc | apply Kd.N_drewN | apply Kd.N_drew)); exact HO513.out) hb); have n2_ := Aside0.mk (Kd.V_below (by (with_reducible repeat (first | apply Kd.V_alloc | apply Kd.V_drewN | apply Kd.V_drew)); exact HO518.out) hb); have n3_ := Aside0.mk (Kd.V_lower (Kd.V_mono (ok' := fun k_ => some k_ ≠ (v498 : Value).ownBlock ∧ some k_ ≠ (v512 : Value).ownBlock ∧ k_ ≠ gb495 ∧ k_ ≠ gb509) ho0 (fun k_ hk_ => ⟨Or.elim hk_ (fun hs_ => hs_.1) (fun hn_ => (Kd.fresh' (Kd.N_lt (by (with_reducible repeat (first | apply Kd.N_alloc | apply Kd.N_drewN | apply Kd.N_drew)); exact HO_7.out)) k_ hn_)), Or.elim hk_ (fun hs_ => hs_.2.1) (fun hn_ => (Kd.fresh' (Kd.N_lt (by (with_reducible repeat (first | apply Kd.N_alloc | apply Kd.N_drewN | apply Kd.N_drew)); exact HO513.out)) k_ hn_)), Or.elim hk_ (fun hs_ => hs_.2.2.1) (fun hn_ => (Kd.freshB (g := gb495) (o := .cells #[.int .i64 a0_0, .int .i64 a0_1] 23 (0, 0)) (by (with_reducible repeat (first | refine blk_drewN ?_ _ | refine blk_drew ?_ | refine blk_alloc ?_ _)); exact BK495.out) k_ hn_)), Or.elim hk_ (fun hs_ => hs_.2.2.2) (fun hn_ => (Kd.freshB (g := gb509) (o := .cells #[.int .i64 (wrap64 (a0_0 * (Int.tmod a2 17))), .int .i64 (wrap64 (a0_1 * (Int.tmod a2 17)))] 23 (0, 0)) (by (with_reducible repeat (first | refine blk_drewN ?_ _ | refine blk_drew ?_ | refine blk_alloc ?_ _)); exact BK509.out) k_ hn_))⟩)) (below_size (by repeat (first | (with_reducible first | exact HB.out | apply below_alloc | apply pw_below_drewN | apply below_drew1 | refine below_set ?_ GE495.out | refine below_set ?_ GE509.out) | exact HB.out)))); have n4_ := Aside0.mk (blk_below (g := gb495) (o := .cells #[.int .i64 a0_0, .int .i64 a0_1] 23 (0, 0)) (by (with_reducible repeat (first | refine blk_drewN ?_ _ | refine blk_drew ?_ | refine blk_alloc ?_ _)); exact BK495.out) hb); have n5_ := Aside0.mk (blk_below (g := gb509) (o := .cells #[.int .i64 (wrap64 (a0_0 * (Int.tmod a2 17))), .int .i64 (wrap64 (a0_1 * (Int.tmod a2 17)))] 23 (0, 0)) (by (with_reducible repeat (first | refine blk_drewN ?_ _ | refine blk_drew ?_ | refine blk_alloc ?_ _)); exact BK509.out) hb); have n6_ := Aside0.mk (below_step (by repeat (first | (with_reducible first | exact HB.out | apply below_alloc | apply pw_below_drewN | apply below_drew1 | refine below_set ?_ GE495.out | refine below_set ?_ GE509.out) | exact HB.out)) hb); clear HO_7; clear HO513; clear HO518; clear BK495; clear BK509; clear HB; have HO_7 := n0_; have HO513 := n1_; have HO518 := n2_; have HO522 := n3_; have BK495 := n4_; have BK509 := n5_; have HB := n6_; clear n0_ n1_ n2_ n3_ n4_ n5_ n6_; (try clear hb); (try clear hb2); (try clear hk); (try clear hi); (try clear ho0)) | ((with_reducible refine gate_dst (N := 13) rfl ?_); (try (refine gate_guard (by rfl) ?_; dsimp only)); refine box_event ?hg (N := 13) ?hd (cs := #[.bool false, .slice none 0 0]) (t := 57) ?hr ?_; (case hd => rfl); (case hg => rfl); (case hr => first | (go_simp; done) | (go_simp; rfl)); intro gb524 hg w68 hbox hb; have n0_ := Aside0.mk (Kd.N_below (Kd.N_elderB (by (with_reducible repeat (first | apply Kd.N_alloc | apply Kd.N_drewN | apply Kd.N_drew)); exact HO_7.out) gb524 (Nat.le_of_eq hg.symm)) hb); have n1_ := Aside0.mk (Kd.N_below (Kd.N_elderB (by (with_reducible repeat (first | apply Kd.N_alloc | apply Kd.N_drewN | apply Kd.N_drew)); exact HO513.out) gb524 (Nat.le_of_eq hg.symm)) hb); have n2_ := Aside0.mk (Kd.V_below (Kd.V_elderB (by (with_reducible repeat (first | apply Kd.V_alloc | apply Kd.V_drewN | apply Kd.V_drew)); exact HO518.out) gb524 (Nat.le_of_eq hg.symm)) hb); have n3_ := Aside0.mk (Kd.V_below (Kd.V_elderB (by (with_reducible repeat (first | apply Kd.V_alloc | apply Kd.V_drewN | apply Kd.V_drew)); exact HO522.out) gb524 (Nat.le_of_eq hg.symm)) hb); have n4_ := Aside0.mk (blk_below (g := gb495) (o := .cells #[.int .i64 a0_0, .int .i64 a0_1] 23 (0, 0)) (by (with_reducible repeat (first | refine blk_drewN ?_ _ | refine blk_drew ?_ | refine blk_alloc ?_ _)); exact BK495.out) hb); have n5_ := Aside0.mk (blk_below (g := gb509) (o := .cells #[.int .i64 (wrap64 (a0_0 * (Int.tmod a2 17))), .int .i64 (wrap64 (a0_1 * (Int.tmod a2 17)))] 23 (0, 0)) (by (with_reducible repeat (first | refine blk_drewN ?_ _ | refine blk_drew ?_ | refine blk_alloc ?_ _)); exact BK509.out) hb); have n6_ := Aside0.mk (below_step (by repeat (first | (with_reducible first | exact HB.out | apply below_alloc | apply pw_below_drewN | apply below_drew1 | refine below_set ?_ GE495.out | refine below_set ?_ GE509.out) | exact HB.out)) hb); have n7_ := Aside0.mk (hbox); have n8_ := Aside0.mk ((by rw [hg]; exact (below_size (by repeat (first | (with_reducible first | exact HB.out | apply below_alloc | apply pw_below_drewN | apply below_drew1 | refine below_set ?_ GE495.out | refine below_set ?_ GE509.out) | exact HB.out))) : w.heap.size ≤ gb524)); have n9_ := Aside0.mk ((by rw [hg]; exact (below_size (by repeat (first | (with_reducible first | exact HB.out | apply below_alloc | apply pw_below_drewN | apply below_drew1 | refine below_set ?_ GE495.out | refine below_set ?_ GE509.out) | exact HB.out))) : w.heap.size ≤ gb524)); have n10_ := Aside0.mk ((by rw [hg]; exact Nat.ne_of_lt (blk_lt (g := gb495) (o := .cells #[.int .i64 a0_0, .int .i64 a0_1] 23 (0, 0)) (by (with_reducible repeat (first | refine blk_drewN ?_ _ | refine blk_drew ?_ | refine blk_alloc ?_ _)); exact BK495.out)) : gb495 ≠ gb524)); have n11_ := Aside0.mk ((by rw [hg]; exact Nat.ne_of_gt (blk_lt (g := gb495) (o := .cells #[.int .i64 a0_0, .int .i64 a0_1] 23 (0, 0)) (by (with_reducible repeat (first | refine blk_drewN ?_ _ | refine blk_drew ?_ | refine blk_alloc ?_ _)); exact BK495.out)) : gb524 ≠ gb495)); have n12_ := Aside0.mk ((by rw [hg]; exact Nat.ne_of_lt (blk_lt (g := gb509) (o := .cells #[.int .i64 (wrap64 (a0_0 * (Int.tmod a2 17))), .int .i64 (wrap64 (a0_1 * (Int.tmod a2 17)))] 23 (0, 0)) (by (with_reducible repeat (first | refine blk_drewN ?_ _ | refine blk_drew ?_ | refine blk_alloc ?_ _)); exact BK509.out)) : gb509 ≠ gb524)); have n13_ := Aside0.mk ((by rw [hg]; exact Nat.ne_of_gt (blk_lt (g := gb509) (o := .cells #[.int .i64 (wrap64 (a0_0 * (Int.tmod a2 17))), .int .i64 (wrap64 (a0_1 * (Int.tmod a2 17)))] 23 (0, 0)) (by (with_reducible repeat (first | refine blk_drewN ?_ _ | refine blk_drew ?_ | refine blk_alloc ?_ _)); exact BK509.out)) : gb524 ≠ gb509)); clear HO_7; clear HO513; clear HO518; clear HO522; clear BK495; clear BK509; clear HB; have HO_7 := n0_; have HO513 := n1_; have HO518 := n2_; have HO522 := n3_; have BK495 := n4_; have BK509 := n5_; have HB := n6_; have BK524 := n7_; have GW524 := n8_; have GE524 := n9_; have NB495_524 := n10_; have NB524_495 := n11_; have NB509_524 := n12_; have NB524_509 := n13_; clear n0_ n1_ n2_ n3_ n4_ n5_ n6_ n7_ n8_ n9_ n10_ n11_ n12_ n13_; clear hb hbox hg; have hnb69 := NB524_495.out; have hnc69 := NB495_524.out; have hnb70 := NB524_509.out; have hnc70 := NB509_524.out; have hcz71_0 : w68.cell? ⟨gb524, 0, none⟩ = some (.bool false) := (blk_cell BK524.out 0).trans rfl; have hcz71_1 : w68.cell? ⟨gb524, 1, none⟩ = some (.slice none 0 0) := (blk_cell BK524.out 1).trans rfl; have hfz71_0 := blk_frozen BK524.out 0; have hfz71_1 := blk_frozen BK524.out 1; obtain ⟨Ao72, co72, eo72⟩ := Kd.V_slice HO522.out; subst eo72))
                            (try simp only [Act.put, List.setIfInBounds_toArray, List.set_cons_zero, List.set_cons_succ])
                            go_cut [115] (fun v115 wc => ∃ (kq : Nat) (x115_60 : Bool), v115 = .bool x115_60 ∧ Aside0 (swagelaw06_PointPowers.j4 kq a1 t497 t511 x115_60 t519 t520 = some r) ∧ Aside0 (kq ≤ kj43) ∧ Aside0 (Kd.N k57 57 wc w.heap.size (fun k_ => some k_ ≠ (v512 : Value).ownBlock ∧ k_ ≠ gb495 ∧ k_ ≠ gb509 ∧ k_ ≠ gb524) v498 t497) ∧ Aside0 (Kd.N k57 57 wc w.heap.size (fun k_ => some k_ ≠ (v498 : Value).ownBlock ∧ k_ ≠ gb495 ∧ k_ ≠ gb509 ∧ k_ ≠ gb524) v512 t511) ∧ Aside0 (Kd.V (Kd.int .u32) 81 wc w.heap.size (fun k_ => some k_ ≠ (v498 : Value).ownBlock ∧ some k_ ≠ (v512 : Value).ownBlock ∧ k_ ≠ gb495 ∧ k_ ≠ gb509 ∧ k_ ≠ gb524) (.slice Ao72 t520.length co72) t520) ∧ Aside0 (wc.heap[gb495]? = some (.cells #[.int .i64 a0_0, .int .i64 a0_1] 23 (0, 0))) ∧ Aside0 (wc.heap[gb509]? = some (.cells #[.int .i64 (wrap64 (a0_0 * (Int.tmod a2 17))), .int .i64 (wrap64 (a0_1 * (Int.tmod a2 17)))] 23 (0, 0))) ∧ Aside0 (wc.heap[gb524]? = some (.cells #[.bool t519, (.slice Ao72 t520.length co72)] 57 (0, 0))) ∧ Aside0 (Below w.heap.size w wc))
                            case first =>
                              have H := HC61.out
                              clear HC61
                              by_cases c73 : t514 = 0
                              · rw [if_pos c73] at H
                                have c73b0 : (t514 == 0) = true := beq_iff_eq.mpr c73
                                have c73b1 : (t514 != 0) = false := bne_eq_false_iff_eq.mpr c73
                                clear c73
                                (first | rw [c73b0] | (simp only [i64_w, i32_w]; rw [c73b0]) | skip)
                                by_cases c74 : t523 = 0
                                · rw [if_pos c74] at H
                                  have c74b0 : (t523 == 0) = true := beq_iff_eq.mpr c74
                                  have c74b1 : (t523 != 0) = false := bne_eq_false_iff_eq.mpr c74
                                  clear c74
                                  have H' := Aside0.mk H
                                  clear H
                                  obtain ⟨Ao75, co75, eo75⟩ := Kd.N_slice HO513.out
                                  subst eo75
                                  go_wp2
                                  go_meet
                                  case rel => exact ⟨_, (((t511.length : Int) != a1)), (by first | rfl | (simp; done) | (simp [*]; done)), H', ⟨by have := HJ6.out; have := HJ27.out; have := HK3.out; have := HJ43.out; first | omega | exact Nat.le_refl _⟩, ⟨by (with_reducible repeat (first | apply Kd.N_alloc | apply Kd.N_drewN | apply Kd.N_drew)); exact Kd.N_mono (Kd.N_far (p := ⟨gb524, 1, none⟩) (Kd.N_far (p := ⟨gb524, 0, none⟩) (Kd.N_mono HO_7.out (fun k_ hk => (⟨hk, hk.2⟩ : _ ∧ k_ ≠ gb524))) (fun _ hk => hk.2) (.bool t519)) (fun _ hk => hk.2) (.slice Ao72 t520.length co72)) (fun _ hk => ⟨hk.1.1.2, ⟨hk.1.1.1.1, ⟨hk.1.1.1.2, hk.1.2⟩⟩⟩)⟩, ⟨by (with_reducible repeat (first | apply Kd.N_alloc | apply Kd.N_drewN | apply Kd.N_drew)); exact Kd.N_mono (Kd.N_far (p := ⟨gb524, 1, none⟩) (Kd.N_far (p := ⟨gb524, 0, none⟩) (Kd.N_mono HO513.out (fun k_ hk => (⟨hk, hk.2⟩ : _ ∧ k_ ≠ gb524))) (fun _ hk => hk.2) (.bool t519)) (fun _ hk => hk.2) (.slice Ao72 t520.length co72)) (fun _ hk => ⟨hk.1.1.1, ⟨hk.1.1.2.1, ⟨hk.1.1.2.2, hk.1.2⟩⟩⟩)⟩, ⟨by (with_reducible repeat (first | apply Kd.V_alloc | apply Kd.V_drewN | apply Kd.V_drew)); exact Kd.V_mono (Kd.V_far (p := ⟨gb524, 1, none⟩) (Kd.V_far (p := ⟨gb524, 0, none⟩) (Kd.V_mono HO522.out (fun k_ hk => (⟨hk, hk.2⟩ : _ ∧ k_ ≠ gb524))) (fun _ hk => hk.2) (.bool t519)) (fun _ hk => hk.2) (.slice Ao72 t520.length co72)) (fun _ hk => ⟨hk.1.1.1, ⟨hk.1.1.2.1, ⟨hk.1.1.2.2.1, ⟨hk.1.1.2.2.2, hk.1.2⟩⟩⟩⟩)⟩, ⟨by (with_reducible repeat (first | refine blk_drewN ?_ _ | refine blk_drew ?_ | refine blk_alloc ?_ _)); refine blk_far ?_ NB495_524.out _; (with_reducible repeat (first | refine blk_drewN ?_ _ | refine blk_drew ?_ | refine blk_alloc ?_ _)); refine blk_far ?_ NB495_524.out _; (with_reducible repeat (first | refine blk_drewN ?_ _ | refine blk_drew ?_ | refine blk_alloc ?_ _)); exact BK495.out⟩, ⟨by (with_reducible repeat (first | refine blk_drewN ?_ _ | refine blk_drew ?_ | refine blk_alloc ?_ _)); refine blk_far ?_ NB509_524.out _; (with_reducible repeat (first | refine blk_drewN ?_ _ | refine blk_drew ?_ | refine blk_alloc ?_ _)); refine blk_far ?_ NB509_524.out _; (with_reducible repeat (first | refine blk_drewN ?_ _ | refine blk_drew ?_ | refine blk_alloc ?_ _)); exact BK509.out⟩, ⟨by (with_reducible repeat (first | refine blk_drewN ?_ _ | refine blk_drew ?_ | refine blk_alloc ?_ _)); refine blk_put (cs := #[.bool t519, .slice none 0 0]) ?_ 1 _ rfl; (with_reducible repeat (first | refine blk_drewN ?_ _ | refine blk_drew ?_ | refine blk_alloc ?_ _)); refine blk_put (cs := #[.bool false, .slice none 0 0]) ?_ 0 _ rfl; (with_reducible repeat (first | refine blk_drewN ?_ _ | refine blk_drew ?_ | refine blk_alloc ?_ _)); exact BK524.out⟩, ⟨by repeat (first | (with_reducible first | exact HB.out | apply below_alloc | apply pw_below_drewN | apply below_drew1 | refine below_set ?_ GE495.out | refine below_set ?_ GE509.out | refine below_set ?_ GE524.out) | exact HB.out)⟩⟩
                                · rw [if_neg c74] at H
                                  have c74b0 : (t523 == 0) = false := beq_eq_false_iff_ne.mpr c74
                                  have c74b1 : (t523 != 0) = true := bne_iff_ne.mpr c74
                                  have H' := Aside0.mk H
                                  clear H
                                  go_wp2
                                  go_meet
                                  case rel => exact ⟨_, (true), (by first | rfl | (simp; done) | (simp [*]; done)), H', ⟨by have := HJ6.out; have := HJ27.out; have := HK3.out; have := HJ43.out; first | omega | exact Nat.le_refl _⟩, ⟨by (with_reducible repeat (first | apply Kd.N_alloc | apply Kd.N_drewN | apply Kd.N_drew)); exact Kd.N_mono (Kd.N_far (p := ⟨gb524, 1, none⟩) (Kd.N_far (p := ⟨gb524, 0, none⟩) (Kd.N_mono HO_7.out (fun k_ hk => (⟨hk, hk.2⟩ : _ ∧ k_ ≠ gb524))) (fun _ hk => hk.2) (.bool t519)) (fun _ hk => hk.2) (.slice Ao72 t520.length co72)) (fun _ hk => ⟨hk.1.1.2, ⟨hk.1.1.1.1, ⟨hk.1.1.1.2, hk.1.2⟩⟩⟩)⟩, ⟨by (with_reducible repeat (first | apply Kd.N_alloc | apply Kd.N_drewN | apply Kd.N_drew)); exact Kd.N_mono (Kd.N_far (p := ⟨gb524, 1, none⟩) (Kd.N_far (p := ⟨gb524, 0, none⟩) (Kd.N_mono HO513.out (fun k_ hk => (⟨hk, hk.2⟩ : _ ∧ k_ ≠ gb524))) (fun _ hk => hk.2) (.bool t519)) (fun _ hk => hk.2) (.slice Ao72 t520.length co72)) (fun _ hk => ⟨hk.1.1.1, ⟨hk.1.1.2.1, ⟨hk.1.1.2.2, hk.1.2⟩⟩⟩)⟩, ⟨by (with_reducible repeat (first | apply Kd.V_alloc | apply Kd.V_drewN | apply Kd.V_drew)); exact Kd.V_mono (Kd.V_far (p := ⟨gb524, 1, none⟩) (Kd.V_far (p := ⟨gb524, 0, none⟩) (Kd.V_mono HO522.out (fun k_ hk => (⟨hk, hk.2⟩ : _ ∧ k_ ≠ gb524))) (fun _ hk => hk.2) (.bool t519)) (fun _ hk => hk.2) (.slice Ao72 t520.length co72)) (fun _ hk => ⟨hk.1.1.1, ⟨hk.1.1.2.1, ⟨hk.1.1.2.2.1, ⟨hk.1.1.2.2.2, hk.1.2⟩⟩⟩⟩)⟩, ⟨by (with_reducible repeat (first | refine blk_drewN ?_ _ | refine blk_drew ?_ | refine blk_alloc ?_ _)); refine blk_far ?_ NB495_524.out _; (with_reducible repeat (first | refine blk_drewN ?_ _ | refine blk_drew ?_ | refine blk_alloc ?_ _)); refine blk_far ?_ NB495_524.out _; (with_reducible repeat (first | refine blk_drewN ?_ _ | refine blk_drew ?_ | refine blk_alloc ?_ _)); exact BK495.out⟩, ⟨by (with_reducible repeat (first | refine blk_drewN ?_ _ | refine blk_drew ?_ | refine blk_alloc ?_ _)); refine blk_far ?_ NB509_524.out _; (with_reducible repeat (first | refine blk_drewN ?_ _ | refine blk_drew ?_ | refine blk_alloc ?_ _)); refine blk_far ?_ NB509_524.out _; (with_reducible repeat (first | refine blk_drewN ?_ _ | refine blk_drew ?_ | refine blk_alloc ?_ _)); exact BK509.out⟩, ⟨by (with_reducible repeat (first | refine blk_drewN ?_ _ | refine blk_drew ?_ | refine blk_alloc ?_ _)); refine blk_put (cs := #[.bool t519, .slice none 0 0]) ?_ 1 _ rfl; (with_reducible repeat (first | refine blk_drewN ?_ _ | refine blk_drew ?_ | refine blk_alloc ?_ _)); refine blk_put (cs := #[.bool false, .slice none 0 0]) ?_ 0 _ rfl; (with_reducible repeat (first | refine blk_drewN ?_ _ | refine blk_drew ?_ | refine blk_alloc ?_ _)); exact BK524.out⟩, ⟨by repeat (first | (with_reducible first | exact HB.out | apply below_alloc | apply pw_below_drewN | apply below_drew1 | refine below_set ?_ GE495.out | refine below_set ?_ GE509.out | refine below_set ?_ GE524.out) | exact HB.out)⟩⟩
                              · rw [if_neg c73] at H
                                have c73b0 : (t514 == 0) = false := beq_eq_false_iff_ne.mpr c73
                                have c73b1 : (t514 != 0) = true := bne_iff_ne.mpr c73
                                (first | rw [c73b0] | (simp only [i64_w, i32_w]; rw [c73b0]) | skip)
                                have H' := Aside0.mk H
                                clear H
                                go_wp2
                                go_meet
                                case rel => exact ⟨_, (true), (by first | rfl | (simp; done) | (simp [*]; done)), H', ⟨by have := HJ6.out; have := HJ27.out; have := HK3.out; have := HJ43.out; first | omega | exact Nat.le_refl _⟩, ⟨by (with_reducible repeat (first | apply Kd.N_alloc | apply Kd.N_drewN | apply Kd.N_drew)); exact Kd.N_mono (Kd.N_far (p := ⟨gb524, 1, none⟩) (Kd.N_far (p := ⟨gb524, 0, none⟩) (Kd.N_mono HO_7.out (fun k_ hk => (⟨hk, hk.2⟩ : _ ∧ k_ ≠ gb524))) (fun _ hk => hk.2) (.bool t519)) (fun _ hk => hk.2) (.slice Ao72 t520.length co72)) (fun _ hk => ⟨hk.1.1.2, ⟨hk.1.1.1.1, ⟨hk.1.1.1.2, hk.1.2⟩⟩⟩)⟩, ⟨by (with_reducible repeat (first | apply Kd.N_alloc | apply Kd.N_drewN | apply Kd.N_drew)); exact Kd.N_mono (Kd.N_far (p := ⟨gb524, 1, none⟩) (Kd.N_far (p := ⟨gb524, 0, none⟩) (Kd.N_mono HO513.out (fun k_ hk => (⟨hk, hk.2⟩ : _ ∧ k_ ≠ gb524))) (fun _ hk => hk.2) (.bool t519)) (fun _ hk => hk.2) (.slice Ao72 t520.length co72)) (fun _ hk => ⟨hk.1.1.1, ⟨hk.1.1.2.1, ⟨hk.1.1.2.2, hk.1.2⟩⟩⟩)⟩, ⟨by (with_reducible repeat (first | apply Kd.V_alloc | apply Kd.V_drewN | apply Kd.V_drew)); exact Kd.V_mono (Kd.V_far (p := ⟨gb524, 1, none⟩) (Kd.V_far (p := ⟨gb524, 0, none⟩) (Kd.V_mono HO522.out (fun k_ hk => (⟨hk, hk.2⟩ : _ ∧ k_ ≠ gb524))) (fun _ hk => hk.2) (.bool t519)) (fun _ hk => hk.2) (.slice Ao72 t520.length co72)) (fun _ hk => ⟨hk.1.1.1, ⟨hk.1.1.2.1, ⟨hk.1.1.2.2.1, ⟨hk.1.1.2.2.2, hk.1.2⟩⟩⟩⟩)⟩, ⟨by (with_reducible repeat (first | refine blk_drewN ?_ _ | refine blk_drew ?_ | refine blk_alloc ?_ _)); refine blk_far ?_ NB495_524.out _; (with_reducible repeat (first | refine blk_drewN ?_ _ | refine blk_drew ?_ | refine blk_alloc ?_ _)); refine blk_far ?_ NB495_524.out _; (with_reducible repeat (first | refine blk_drewN ?_ _ | refine blk_drew ?_ | refine blk_alloc ?_ _)); exact BK495.out⟩, ⟨by (with_reducible repeat (first | refine blk_drewN ?_ _ | refine blk_drew ?_ | refine blk_alloc ?_ _)); refine blk_far ?_ NB509_524.out _; (with_reducible repeat (first | refine blk_drewN ?_ _ | refine blk_drew ?_ | refine blk_alloc ?_ _)); refine blk_far ?_ NB509_524.out _; (with_reducible repeat (first | refine blk_drewN ?_ _ | refine blk_drew ?_ | refine blk_alloc ?_ _)); exact BK509.out⟩, ⟨by (with_reducible repeat (first | refine blk_drewN ?_ _ | refine blk_drew ?_ | refine blk_alloc ?_ _)); refine blk_put (cs := #[.bool t519, .slice none 0 0]) ?_ 1 _ rfl; (with_reducible repeat (first | refine blk_drewN ?_ _ | refine blk_drew ?_ | refine blk_alloc ?_ _)); refine blk_put (cs := #[.bool false, .slice none 0 0]) ?_ 0 _ rfl; (with_reducible repeat (first | refine blk_drewN ?_ _ | refine blk_drew ?_ | refine blk_alloc ?_ _)); exact BK524.out⟩, ⟨by repeat (first | (with_reducible first | exact HB.out | apply below_alloc | apply pw_below_drewN | apply below_drew1 | refine below_set ?_ GE495.out | refine below_set ?_ GE509.out | refine below_set ?_ GE524.out) | exact HB.out)⟩⟩
                            case rest =>
                              clear HC61
                              try clear c5
                              try clear c21
                              try clear c33
                              try clear c34
                              try clear c57
                              obtain ⟨kq, x115_60, rfl, HA, HJ60, HO_7, HO_12, HO_525001, BK495, BK509, BK524, HB⟩ := hcut
                              cases kq with
                              | zero => exact absurd HA.out (by simp [swagelaw06_PointPowers.j4])
                              | succ kj60 =>
                                have H := HA.out
                                clear HA
                                simp only [swagelaw06_PointPowers.j4] at H
                                by_cases c76 : x115_60 = true
                                · subst c76
                                  have H1 : (some false) = some r := by rw [if_pos rfl] at H; exact H
                                  clear H
                                  have H := H1
                                  clear H1
                                  obtain rfl := Option.some.inj H
                                  exact absurd hT.out (by simp)
                                · replace c76 := Bool.eq_false_iff.mpr c76
                                  subst c76
                                  have H1 : (swagelaw06_PointPowers.l1 kj60 a1 t497 t511 0 t519 t520) = some r := by rw [if_neg (show ¬ (false = true) by decide)] at H; exact H
                                  clear H
                                  have H := H1
                                  clear H1
                                  have H' := Aside0.mk H
                                  clear H
                                  go_wp2
                                  go_loopg [15] kj60 (fun kq v15 w' => ∃ (x15_6 : Int), v15 = .int .i64 x15_6 ∧ Aside0 (swagelaw06_PointPowers.l1 kq a1 t497 t511 x15_6 t519 t520 = some r) ∧ Aside0 (kq ≤ kj60) ∧ Aside0 (Kd.N k57 57 w' w.heap.size (fun k_ => some k_ ≠ (v512 : Value).ownBlock ∧ k_ ≠ gb495 ∧ k_ ≠ gb509 ∧ k_ ≠ gb524) v498 t497) ∧ Aside0 (Kd.N k57 57 w' w.heap.size (fun k_ => some k_ ≠ (v498 : Value).ownBlock ∧ k_ ≠ gb495 ∧ k_ ≠ gb509 ∧ k_ ≠ gb524) v512 t511) ∧ Aside0 (Kd.V (Kd.int .u32) 81 w' w.heap.size (fun k_ => some k_ ≠ (v498 : Value).ownBlock ∧ some k_ ≠ (v512 : Value).ownBlock ∧ k_ ≠ gb495 ∧ k_ ≠ gb509 ∧ k_ ≠ gb524) (.slice Ao72 t520.length co72) t520) ∧ Aside0 (w'.heap[gb495]? = some (.cells #[.int .i64 a0_0, .int .i64 a0_1] 23 (0, 0))) ∧ Aside0 (w'.heap[gb509]? = some (.cells #[.int .i64 (wrap64 (a0_0 * (Int.tmod a2 17))), .int .i64 (wrap64 (a0_1 * (Int.tmod a2 17)))] 23 (0, 0))) ∧ Aside0 (w'.heap[gb524]? = some (.cells #[.bool t519, (.slice Ao72 t520.length co72)] 57 (0, 0))) ∧ Aside0 (Below w.heap.size w w'))
                                  case atStart => exact ⟨(0), (by first | rfl | (simp; done) | (simp [*]; done)), H', ⟨Nat.le_refl _⟩, ⟨by (with_reducible repeat (first | apply Kd.N_alloc | apply Kd.N_drewN | apply Kd.N_drew)); exact HO_7.out⟩, ⟨by (with_reducible repeat (first | apply Kd.N_alloc | apply Kd.N_drewN | apply Kd.N_drew)); exact HO_12.out⟩, ⟨by (with_reducible repeat (first | apply Kd.V_alloc | apply Kd.V_drewN | apply Kd.V_drew)); exact HO_525001.out⟩, ⟨by (with_reducible repeat (first | refine blk_drewN ?_ _ | refine blk_drew ?_ | refine blk_alloc ?_ _)); exact BK495.out⟩, ⟨by (with_reducible repeat (first | refine blk_drewN ?_ _ | refine blk_drew ?_ | refine blk_alloc ?_ _)); exact BK509.out⟩, ⟨by (with_reducible repeat (first | refine blk_drewN ?_ _ | refine blk_drew ?_ | refine blk_alloc ?_ _)); exact BK524.out⟩, ⟨by repeat (first | (with_reducible first | exact HB.out | apply below_alloc | apply pw_below_drewN | apply below_drew1 | refine below_set ?_ GE495.out | refine below_set ?_ GE509.out | refine below_set ?_ GE524.out) | exact HB.out)⟩⟩
                                  case round =>
                                    clear H'
                                    try clear c5
                                    try clear c21
                                    try clear c33
                                    try clear c34
                                    try clear c57
                                    try clear c76
                                    obtain ⟨x15_6, rfl, HA, HK6, HO_7, HO_12, HO_525001, BK495, BK509, BK524, HB⟩ := hrel
                                    cases gk with
                                    | zero => exact absurd HA.out (by simp [swagelaw06_PointPowers.l1])
                                    | succ k6 =>
                                      have H := HA.out
                                      clear HA
                                      simp only [swagelaw06_PointPowers.l1] at H
                                      by_cases c77 : x15_6 < a1
                                      · rw [if_pos c77] at H
                                        have c77b0 : decide (x15_6 < a1) = true := decide_eq_true c77
                                        clear c77
                                        by_cases c78 : 0 ≤ x15_6
                                        · rw [if_pos c78] at H
                                          have c78b0 : decide (0 ≤ x15_6) = true := decide_eq_true c78
                                          clear c78
                                          by_cases c79 : x15_6 < (t511.length : Int)
                                          · rw [if_pos c79] at H
                                            have c79b0 : decide (x15_6 < (t511.length : Int)) = true := decide_eq_true c79
                                            clear c79
                                            by_cases c80 : x15_6 < (t497.length : Int)
                                            · rw [if_pos c80] at H
                                              have c80b0 : decide (x15_6 < (t497.length : Int)) = true := decide_eq_true c80
                                              clear c80
                                              replace H := Option.bind_eq_some_iff.mp H
                                              obtain ⟨⟨t527, t528⟩, A810, H⟩ := H
                                              replace H : ((integer_Int_Cmp.f k6 ((rd_T57 t511 x15_6).f0) ((rd_T57 t511 x15_6).f1) t527 t528).bind fun t531 => (if t531 = 0 then (swagelaw06_PointPowers.l1 k6 a1 t497 t511 (wrap64 (x15_6 + 1)) t519 t520) else (some false))) = some r := H
                                              have A81 := Aside0.mk A810
                                              clear A810
                                              replace H := Option.bind_eq_some_iff.mp H
                                              obtain ⟨t531, A820, H⟩ := H
                                              replace H : (if t531 = 0 then (swagelaw06_PointPowers.l1 k6 a1 t497 t511 (wrap64 (x15_6 + 1)) t519 t520) else (some false)) = some r := H
                                              have A82 := Aside0.mk A820
                                              clear A820
                                              by_cases c83 : t531 = 0
                                              · rw [if_pos c83] at H
                                                have c83b0 : (t531 == 0) = true := beq_iff_eq.mpr c83
                                                have c83b1 : (t531 != 0) = false := bne_eq_false_iff_eq.mpr c83
                                                clear c83
                                                have H' := Aside0.mk H
                                                clear H
                                                try go_wp2
                                                have n0_ := Aside0.mk (Kd.N_drew HO_7.out)
                                                have n1_ := Aside0.mk (Kd.N_drew HO_12.out)
                                                have n2_ := Aside0.mk (Kd.V_drew HO_525001.out)
                                                have n3_ := Aside0.mk (blk_drew BK495.out)
                                                have n4_ := Aside0.mk (blk_drew BK509.out)
                                                have n5_ := Aside0.mk (blk_drew BK524.out)
                                                have n6_ := Aside0.mk (below_drew1 HB.out)
                                                clear HO_7
                                                clear HO_12
                                                clear HO_525001
                                                clear BK495
                                                clear BK509
                                                clear BK524
                                                clear HB
                                                have HO_7 := n0_
                                                have HO_12 := n1_
                                                have HO_525001 := n2_
                                                have BK495 := n3_
                                                have BK509 := n4_
                                                have BK524 := n5_
                                                have HB := n6_
                                                clear n0_ n1_ n2_ n3_ n4_ n5_ n6_
                                                obtain ⟨Ao85, co85, eo85⟩ := Kd.N_slice HO_12.out
                                                (first | subst eo85 | (injection eo85 with f1_ f2_ f3_; have f4_ := f1_.symm; have f5_ := f3_.symm; clear f1_ f2_ f3_; subst f4_; subst f5_))
                                                have p525 : 0 ≤ (x15_6 : Int) := of_decide_eq_true (by first | (with_reducible assumption) | assumption)
                                                have q525 : x15_6 < (t511.length : Int) := of_decide_eq_true (by first | (with_reducible assumption) | assumption)
                                                obtain ⟨ad525, A525_1, c525_1, e525, hx525_0, hx525_1, hl525_1, hi525_1⟩ := at_T57 (Kd.N_reads' HO_12.out).2.2 x15_6 p525 q525
                                                cases e525
                                                obtain ⟨ce525, hce525, hMe525, hcc525⟩ := Kd.N_get HO_12.out z57 x15_6 p525 (by first | exact q525 | exact of_decide_eq_true (by first | (with_reducible assumption) | assumption) | (have e_ := (Kd.N_reads' HO_12.out).1; omega))
                                                obtain ⟨ua525_1, uc525_1, rfl, ul525_1, ge525_1⟩ := k57_openF hMe525
                                                have hv525_1 := hcc525 1 _ rfl
                                                rw [add_field _ _ 1 (by omega)] at hv525_1
                                                replace hv525_1 := Option.some.inj (hv525_1.symm.trans hx525_1)
                                                injection hv525_1 with hva_ hvn_ hvc_
                                                rw [hva_] at ge525_1
                                                rw [hvc_] at ul525_1
                                                have HL525_1 := Aside0.mk (show Kd.V (Kd.int .u32) 81 _ w.heap.size _ _ ((rd_T57 t511 x15_6).f1) from Kd.V_mk ul525_1 ge525_1)
                                                clear hva_ hvn_ hvc_ ge525_1 ul525_1
                                                clear hcc525 hce525
                                                have HR525_1 := Aside0.mk hi525_1
                                                have HC525_1 := Aside0.mk hl525_1
                                                clear hi525_1 hl525_1
                                                replace p525 := eq_true p525
                                                replace q525 := eq_true q525
                                                obtain ⟨Ao86, co86, eo86⟩ := Kd.N_slice HO_7.out
                                                (first | subst eo86 | (injection eo86 with f1_ f2_ f3_; have f4_ := f1_.symm; have f5_ := f3_.symm; clear f1_ f2_ f3_; subst f4_; subst f5_))
                                                have p526 : 0 ≤ (x15_6 : Int) := of_decide_eq_true (by first | (with_reducible assumption) | assumption)
                                                have q526 : x15_6 < (t497.length : Int) := of_decide_eq_true (by first | (with_reducible assumption) | assumption)
                                                obtain ⟨ad526, A526_1, c526_1, e526, hx526_0, hx526_1, hl526_1, hi526_1⟩ := at_T57 (Kd.N_reads' HO_7.out).2.2 x15_6 p526 q526
                                                cases e526
                                                obtain ⟨ce526, hce526, hMe526, hcc526⟩ := Kd.N_get HO_7.out z57 x15_6 p526 (by first | exact q526 | exact of_decide_eq_true (by first | (with_reducible assumption) | assumption) | (have e_ := (Kd.N_reads' HO_7.out).1; omega))
                                                obtain ⟨ua526_1, uc526_1, rfl, ul526_1, ge526_1⟩ := k57_openF hMe526
                                                have hv526_1 := hcc526 1 _ rfl
                                                rw [add_field _ _ 1 (by omega)] at hv526_1
                                                replace hv526_1 := Option.some.inj (hv526_1.symm.trans hx526_1)
                                                injection hv526_1 with hva_ hvn_ hvc_
                                                rw [hva_] at ge526_1
                                                rw [hvc_] at ul526_1
                                                have HL526_1 := Aside0.mk (show Kd.V (Kd.int .u32) 81 _ w.heap.size _ _ ((rd_T57 t497 x15_6).f1) from Kd.V_mk ul526_1 ge526_1)
                                                clear hva_ hvn_ hvc_ ge526_1 ul526_1
                                                clear hcc526 hce526
                                                have HR526_1 := Aside0.mk hi526_1
                                                have HC526_1 := Aside0.mk hl526_1
                                                clear hi526_1 hl526_1
                                                replace p526 := eq_true p526
                                                replace q526 := eq_true q526
                                                refine start_ (n := 12) (S := fun w' => w'.cell? ⟨gb524, 0, none⟩ = some (.bool t519) ∧ w'.cell? ⟨gb524, 1, none⟩ = some (.slice Ao72 t520.length co72) ∧ w'.cell? (ad525.add ((x15_6).toNat * 2)) = some (.bool ((rd_T57 t511 x15_6).f0)) ∧ w'.cell? ⟨(ad525.add ((x15_6).toNat * 2)).block, (ad525.add ((x15_6).toNat * 2)).off + 1, none⟩ = some (.slice A525_1 ((rd_T57 t511 x15_6).f1).length c525_1) ∧ w'.cell? (ad526.add ((x15_6).toNat * 2)) = some (.bool ((rd_T57 t497 x15_6).f0)) ∧ w'.cell? ⟨(ad526.add ((x15_6).toNat * 2)).block, (ad526.add ((x15_6).toNat * 2)).off + 1, none⟩ = some (.slice A526_1 ((rd_T57 t497 x15_6).f1).length c526_1)) (ds := []) #[false, false, false, false, false, false, false, false, false, false, false, false] (by kernel_rfl) rfl rfl ⟨(blk_cell BK524.out 0).trans rfl, (blk_cell BK524.out 1).trans rfl, hx525_0, hx525_1, hx526_0, hx526_1⟩ (fun hHeld => ?_); refine with_tabW swagelaw06_PointPowers.tab24 swagelaw06_PointPowers.bits24 (fun HT_ HW_ => ?_)
                                                generalize wr.drew = w84 at HO_7 HO_12 HO_525001 BK495 BK509 BK524 HB HL525_1 HL526_1 HR525_1 HR526_1 hx525_0 hx525_1 hx526_0 hx526_1 hHeld ⊢
                                                refine pure_ (i := 0) (N := some 121) (v := ?_) (a' := ?_) #[true, false, false, false, false, false, false, false, false, false, false, false] rfl rfl (any_of HT_.out (by kernel_rfl)) (fun _ _ _ h => h) (Or.inl ⟨by rfl, ?_⟩) ?_ ?_
                                                rotate_left
                                                · intro w'
                                                  go_simp
                                                  with_reducible rfl
                                                rotate_left
                                                · simp only [Act.put, List.setIfInBounds_toArray, List.set_cons_zero, List.set_cons_succ, i64_w, i32_w]
                                                  rfl
                                                refine pure_ (i := 1) (N := some 122) (v := ?_) (a' := ?_) #[true, true, false, false, false, false, false, false, false, false, false, false] rfl rfl (any_of HT_.out (by kernel_rfl)) (fun _ _ _ h => h) (Or.inl ⟨by rfl, ?_⟩) ?_ ?_
                                                rotate_left
                                                · intro w'
                                                  go_simp
                                                  with_reducible rfl
                                                rotate_left
                                                · simp only [Act.put, List.setIfInBounds_toArray, List.set_cons_zero, List.set_cons_succ, i64_w, i32_w]
                                                  rfl
                                                refine pure_ (i := 2) (N := some 123) (v := ?_) (a' := ?_) #[true, true, true, false, false, false, false, false, false, false, false, false] rfl rfl (any_of HT_.out (by kernel_rfl)) (fun _ _ _ h => h) (Or.inl ⟨by rfl, ?_⟩) ?_ ?_
                                                rotate_left
                                                · intro w'
                                                  go_simp
                                                  with_reducible rfl
                                                rotate_left
                                                · simp only [Act.put, List.setIfInBounds_toArray, List.set_cons_zero, List.set_cons_succ, i64_w, i32_w]
                                                  rfl
                                                refine pure_ (i := 4) (N := some 125) (v := ?_) (a' := ?_) #[true, true, true, false, true, false, false, false, false, false, false, false] rfl rfl (any_of HT_.out (by kernel_rfl)) (fun _ _ _ h => h) (Or.inl ⟨by rfl, ?_⟩) ?_ ?_
                                                rotate_left
                                                · intro w'
                                                  go_simp
                                                  with_reducible rfl
                                                rotate_left
                                                · simp only [Act.put, List.setIfInBounds_toArray, List.set_cons_zero, List.set_cons_succ, i64_w, i32_w]
                                                  rfl
                                                refine pure_ (i := 5) (N := some 126) (v := ?_) (a' := ?_) #[true, true, true, false, true, true, false, false, false, false, false, false] rfl rfl (any_of HT_.out (by kernel_rfl)) (fun _ _ _ h => h) (Or.inl ⟨by rfl, ?_⟩) ?_ ?_
                                                rotate_left
                                                · intro w'
                                                  go_simp
                                                  with_reducible rfl
                                                rotate_left
                                                · simp only [Act.put, List.setIfInBounds_toArray, List.set_cons_zero, List.set_cons_succ, i64_w, i32_w]
                                                  rfl
                                                refine pure_ (i := 6) (N := some 127) (v := ?_) (a' := ?_) #[true, true, true, false, true, true, true, false, false, false, false, false] rfl rfl (any_of HT_.out (by kernel_rfl)) (fun _ _ _ h => h) (Or.inl ⟨by rfl, ?_⟩) ?_ ?_
                                                rotate_left
                                                · intro w'
                                                  go_simp
                                                  with_reducible rfl
                                                rotate_left
                                                · simp only [Act.put, List.setIfInBounds_toArray, List.set_cons_zero, List.set_cons_succ, i64_w, i32_w]
                                                  rfl
                                                refine take_ (i := 3) (N := some 124) (v := ?_) (a' := ?_) #[true, true, true, true, true, true, true, false, false, false, false, false] rfl rfl (take_ofW HT_.out HW_.out (by kernel_rfl)) (fun _ _ _ h => h) (Or.inl ⟨by rfl, ?_⟩) hHeld ?_ ?_
                                                rotate_left
                                                · rintro w' ⟨s0, s1, s2, s3, s4, s5⟩
                                                  go_simp
                                                  with_reducible rfl
                                                rotate_left
                                                · simp only [Act.put, List.setIfInBounds_toArray, List.set_cons_zero, List.set_cons_succ, i64_w, i32_w]
                                                  rfl
                                                refine take_ (i := 7) (N := some 128) (v := ?_) (a' := ?_) #[true, true, true, true, true, true, true, true, false, false, false, false] rfl rfl (take_ofW HT_.out HW_.out (by kernel_rfl)) (fun _ _ _ h => h) (Or.inl ⟨by rfl, ?_⟩) hHeld ?_ ?_
                                                rotate_left
                                                · rintro w' ⟨s0, s1, s2, s3, s4, s5⟩
                                                  go_simp
                                                  with_reducible rfl
                                                rotate_left
                                                · simp only [Act.put, List.setIfInBounds_toArray, List.set_cons_zero, List.set_cons_succ, i64_w, i32_w]
                                                  rfl
                                                refine take_ (i := 8) (N := some 129) (v := ?_) (a' := ?_) #[true, true, true, true, true, true, true, true, true, false, false, false] rfl rfl (take_ofW HT_.out HW_.out (by kernel_rfl)) (fun _ _ _ h => h) (Or.inl ⟨by rfl, ?_⟩) hHeld ?_ ?_
                                                rotate_left
                                                · rintro w' ⟨s0, s1, s2, s3, s4, s5⟩
                                                  go_simp
                                                  with_reducible rfl
                                                rotate_left
                                                · simp only [Act.put, List.setIfInBounds_toArray, List.set_cons_zero, List.set_cons_succ, i64_w, i32_w]
                                                  rfl
                                                refine one_ (i := 9) (N := some 130) #[true, true, true, true, true, true, true, true, true, true, false, false] rfl rfl (one_of HT_.out (by kernel_rfl)) (by decide) (fun K hK => ?_)
                                                refine goes_ Try.func31 (by kernel_rfl) rfl #[.agg #[.bool ((rd_T57 t497 x15_6).f0), .slice A526_1 ((rd_T57 t497 x15_6).f1).length c526_1], .agg #[.bool t519, .slice Ao72 t520.length co72]] (by rfl) rfl rfl (by (try simp only [List.map_toArray, List.map_cons, List.map_nil]); first | done | rfl | (simp only [List.length_drop, List.length_take]; rfl)) ?_
                                                with_reducible refine (integer_Int_Mul.calls k6 ((rd_T57 t497 x15_6).f0) _ _ ((rd_T57 t497 x15_6).f1) t519 _ _ t520 t527 t528 _ ?side1 ?side2 ?side3 ?side4 A81.out).mono ?_
                                                (case side1 => repeat (first | exact (by repeat (first | (with_reducible exact HR526_1.out) | (with_reducible refine Kd.C_alloc ?_ _) | (with_reducible refine Kd.C_drewN ?_ _) | (with_reducible refine Kd.C_drew ?_) | exact HR526_1.out)) | (with_reducible refine Kd.C_alloc ?_ _) | (with_reducible refine Kd.C_drewN ?_ _) | (with_reducible refine Kd.C_drew ?_)))
                                                (case side2 => exact HC526_1.out)
                                                (case side3 => repeat (first | exact (Kd.V_reads' HO_525001.out).2.2 | (with_reducible refine Kd.C_alloc ?_ _) | (with_reducible refine Kd.C_drewN ?_ _) | (with_reducible refine Kd.C_drew ?_)))
                                                (case side4 => exact (Kd.V_reads' HO_525001.out).2.1)
                                                rintro e w87 ⟨v529, rfl, ho0, hb⟩
                                                have HS2_ := (hb.cell (World.block_lt_of_cell? _ _ (hHeld.2.2.1))).trans (hHeld.2.2.1)
                                                have HS3_ := (hb.cell (World.block_lt_of_cell? _ _ (hHeld.2.2.2.1))).trans (hHeld.2.2.2.1)
                                                have HS4_ := (hb.cell (World.block_lt_of_cell? _ _ (hHeld.2.2.2.2.1))).trans (hHeld.2.2.2.2.1)
                                                have HS5_ := (hb.cell (World.block_lt_of_cell? _ _ (hHeld.2.2.2.2.2))).trans (hHeld.2.2.2.2.2)
                                                refine ⟨_, rfl, ?_⟩
                                                have n0_ := Aside0.mk (Kd.N_below (by (with_reducible repeat (first | apply Kd.N_alloc | apply Kd.N_drewN | apply Kd.N_drew)); exact HO_7.out) hb)
                                                have n1_ := Aside0.mk (Kd.N_below (by (with_reducible repeat (first | apply Kd.N_alloc | apply Kd.N_drewN | apply Kd.N_drew)); exact HO_12.out) hb)
                                                have n2_ := Aside0.mk (Kd.V_below (by (with_reducible repeat (first | apply Kd.V_alloc | apply Kd.V_drewN | apply Kd.V_drew)); exact HO_525001.out) hb)
                                                have n3_ := Aside0.mk (Kd.V_below (by (with_reducible repeat (first | apply Kd.V_alloc | apply Kd.V_drewN | apply Kd.V_drew)); exact HL525_1.out) hb)
                                                have n4_ := Aside0.mk (Kd.V_below (by (with_reducible repeat (first | apply Kd.V_alloc | apply Kd.V_drewN | apply Kd.V_drew)); exact HL526_1.out) hb)
                                                have n5_ := Aside0.mk (Kd.V_lower (Kd.V_mono (ok' := fun k_ => some k_ ≠ (.slice (some ad526) t497.length co86 : Value).ownBlock ∧ some k_ ≠ (.slice (some ad525) t511.length co85 : Value).ownBlock ∧ k_ ≠ gb495 ∧ k_ ≠ gb509 ∧ k_ ≠ gb524) ho0 (fun k_ hk_ => ⟨(Kd.fresh' (Kd.N_lt (by (with_reducible repeat (first | apply Kd.N_alloc | apply Kd.N_drewN | apply Kd.N_drew)); exact HO_7.out)) k_ hk_), (Kd.fresh' (Kd.N_lt (by (with_reducible repeat (first | apply Kd.N_alloc | apply Kd.N_drewN | apply Kd.N_drew)); exact HO_12.out)) k_ hk_), (Kd.freshB (g := gb495) (o := .cells #[.int .i64 a0_0, .int .i64 a0_1] 23 (0, 0)) (by (with_reducible repeat (first | refine blk_drewN ?_ _ | refine blk_drew ?_ | refine blk_alloc ?_ _)); exact BK495.out) k_ hk_), (Kd.freshB (g := gb509) (o := .cells #[.int .i64 (wrap64 (a0_0 * (Int.tmod a2 17))), .int .i64 (wrap64 (a0_1 * (Int.tmod a2 17)))] 23 (0, 0)) (by (with_reducible repeat (first | refine blk_drewN ?_ _ | refine blk_drew ?_ | refine blk_alloc ?_ _)); exact BK509.out) k_ hk_), (Kd.freshB (g := gb524) (o := .cells #[.bool t519, .slice Ao72 t520.length co72] 57 (0, 0)) (by (with_reducible repeat (first | refine blk_drewN ?_ _ | refine blk_drew ?_ | refine blk_alloc ?_ _)); exact BK524.out) k_ hk_)⟩)) (below_size (by repeat (first | (with_reducible first | exact HB.out | apply below_alloc | apply pw_below_drewN | apply below_drew1 | refine below_set ?_ GE495.out | refine below_set ?_ GE509.out | refine below_set ?_ GE524.out) | exact HB.out))))
                                                have n6_ := Aside0.mk (blk_below (g := gb495) (o := .cells #[.int .i64 a0_0, .int .i64 a0_1] 23 (0, 0)) (by (with_reducible repeat (first | refine blk_drewN ?_ _ | refine blk_drew ?_ | refine blk_alloc ?_ _)); exact BK495.out) hb)
                                                have n7_ := Aside0.mk (blk_below (g := gb509) (o := .cells #[.int .i64 (wrap64 (a0_0 * (Int.tmod a2 17))), .int .i64 (wrap64 (a0_1 * (Int.tmod a2 17)))] 23 (0, 0)) (by (with_reducible repeat (first | refine blk_drewN ?_ _ | refine blk_drew ?_ | refine blk_alloc ?_ _)); exact BK509.out) hb)
                                                have n8_ := Aside0.mk (blk_below (g := gb524) (o := .cells #[.bool t519, .slice Ao72 t520.length co72] 57 (0, 0)) (by (with_reducible repeat (first | refine blk_drewN ?_ _ | refine blk_drew ?_ | refine blk_alloc ?_ _)); exact BK524.out) hb)
                                                have n9_ := Aside0.mk (Kd.C_below (by repeat (first | (with_reducible exact HR525_1.out) | (with_reducible refine Kd.C_alloc ?_ _) | (with_reducible refine Kd.C_drewN ?_ _) | (with_reducible refine Kd.C_drew ?_) | exact HR525_1.out)) hb)
                                                have n10_ := Aside0.mk (Kd.C_below (by repeat (first | (with_reducible exact HR526_1.out) | (with_reducible refine Kd.C_alloc ?_ _) | (with_reducible refine Kd.C_drewN ?_ _) | (with_reducible refine Kd.C_drew ?_) | exact HR526_1.out)) hb)
                                                have n11_ := Aside0.mk (below_step (by repeat (first | (with_reducible first | exact HB.out | apply below_alloc | apply pw_below_drewN | apply below_drew1 | refine below_set ?_ GE495.out | refine below_set ?_ GE509.out | refine below_set ?_ GE524.out) | exact HB.out)) hb)
                                                clear HO_7
                                                clear HO_12
                                                clear HO_525001
                                                clear HL525_1
                                                clear HL526_1
                                                clear BK495
                                                clear BK509
                                                clear BK524
                                                clear HR525_1
                                                clear HR526_1
                                                clear HB
                                                have HO_7 := n0_
                                                have HO_12 := n1_
                                                have HO_525001 := n2_
                                                have HL525_1 := n3_
                                                have HL526_1 := n4_
                                                have HO530 := n5_
                                                have BK495 := n6_
                                                have BK509 := n7_
                                                have BK524 := n8_
                                                have HR525_1 := n9_
                                                have HR526_1 := n10_
                                                have HB := n11_
                                                clear n0_ n1_ n2_ n3_ n4_ n5_ n6_ n7_ n8_ n9_ n10_ n11_
                                                (try clear hb)
                                                (try clear hb2)
                                                (try clear hk)
                                                (try clear hi)
                                                (try clear ho0)
                                                obtain ⟨Ao88, co88, eo88⟩ := Kd.V_slice HO530.out
                                                (first | subst eo88 | (injection eo88 with f1_ f2_ f3_; have f4_ := f1_.symm; have f5_ := f3_.symm; clear f1_ f2_ f3_; subst f4_; subst f5_))
                                                refine hK.out _ _ ⟨(blk_cell BK524.out 0).trans rfl, (blk_cell BK524.out 1).trans rfl, HS2_, HS3_, HS4_, HS5_⟩ (fun hHeld => ?_)
                                                clear hK K
                                                refine norm_ (a' := ?_) ?_ ?_
                                                rotate_left
                                                · show Act.put _ (some 130) _ = _
                                                  simp only [Act.put, List.setIfInBounds_toArray, List.set_cons_zero, List.set_cons_succ, i64_w, i32_w]
                                                  rfl
                                                refine one_ (i := 10) (N := some 131) #[true, true, true, true, true, true, true, true, true, true, true, false] rfl rfl (one_of HT_.out (by kernel_rfl)) (by decide) (fun K hK => ?_)
                                                refine goes_ Try.func30 (by kernel_rfl) rfl #[.agg #[.bool ((rd_T57 t511 x15_6).f0), .slice A525_1 ((rd_T57 t511 x15_6).f1).length c525_1], .agg #[.bool t527, .slice Ao88 t528.length co88]] (by rfl) rfl rfl (by (try simp only [List.map_toArray, List.map_cons, List.map_nil]); first | done | rfl | (simp only [List.length_drop, List.length_take]; rfl)) ?_
                                                with_reducible refine (integer_Int_Cmp.calls k6 ((rd_T57 t511 x15_6).f0) _ _ ((rd_T57 t511 x15_6).f1) t527 _ _ t528 t531 _ ?side1 ?side2 ?side3 ?side4 A82.out).mono ?_
                                                (case side1 => repeat (first | exact (by repeat (first | (with_reducible exact HR525_1.out) | (with_reducible refine Kd.C_alloc ?_ _) | (with_reducible refine Kd.C_drewN ?_ _) | (with_reducible refine Kd.C_drew ?_) | exact HR525_1.out)) | (with_reducible refine Kd.C_alloc ?_ _) | (with_reducible refine Kd.C_drewN ?_ _) | (with_reducible refine Kd.C_drew ?_)))
                                                (case side2 => exact HC525_1.out)
                                                (case side3 => repeat (first | exact (Kd.V_reads' HO530.out).2.2 | (with_reducible refine Kd.C_alloc ?_ _) | (with_reducible refine Kd.C_drewN ?_ _) | (with_reducible refine Kd.C_drew ?_)))
                                                (case side4 => exact (Kd.V_reads' HO530.out).2.1)
                                                rintro e w89 ⟨rfl, hb⟩
                                                have HS2_ := (hb.cell (World.block_lt_of_cell? _ _ (hHeld.2.2.1))).trans (hHeld.2.2.1)
                                                have HS3_ := (hb.cell (World.block_lt_of_cell? _ _ (hHeld.2.2.2.1))).trans (hHeld.2.2.2.1)
                                                have HS4_ := (hb.cell (World.block_lt_of_cell? _ _ (hHeld.2.2.2.2.1))).trans (hHeld.2.2.2.2.1)
                                                have HS5_ := (hb.cell (World.block_lt_of_cell? _ _ (hHeld.2.2.2.2.2))).trans (hHeld.2.2.2.2.2)
                                                refine ⟨_, rfl, ?_⟩
                                                have n0_ := Aside0.mk (Kd.N_below (by (with_reducible repeat (first | apply Kd.N_alloc | apply Kd.N_drewN | apply Kd.N_drew)); exact HO_7.out) hb)
                                                have n1_ := Aside0.mk (Kd.N_below (by (with_reducible repeat (first | apply Kd.N_alloc | apply Kd.N_drewN | apply Kd.N_drew)); exact HO_12.out) hb)
                                                have n2_ := Aside0.mk (Kd.V_below (by (with_reducible repeat (first | apply Kd.V_alloc | apply Kd.V_drewN | apply Kd.V_drew)); exact HO_525001.out) hb)
                                                have n3_ := Aside0.mk (Kd.V_below (by (with_reducible repeat (first | apply Kd.V_alloc | apply Kd.V_drewN | apply Kd.V_drew)); exact HL525_1.out) hb)
                                                have n4_ := Aside0.mk (Kd.V_below (by (with_reducible repeat (first | apply Kd.V_alloc | apply Kd.V_drewN | apply Kd.V_drew)); exact HL526_1.out) hb)
                                                have n5_ := Aside0.mk (Kd.V_below (by (with_reducible repeat (first | apply Kd.V_alloc | apply Kd.V_drewN | apply Kd.V_drew)); exact HO530.out) hb)
                                                have n6_ := Aside0.mk (blk_below (g := gb495) (o := .cells #[.int .i64 a0_0, .int .i64 a0_1] 23 (0, 0)) (by (with_reducible repeat (first | refine blk_drewN ?_ _ | refine blk_drew ?_ | refine blk_alloc ?_ _)); exact BK495.out) hb)
                                                have n7_ := Aside0.mk (blk_below (g := gb509) (o := .cells #[.int .i64 (wrap64 (a0_0 * (Int.tmod a2 17))), .int .i64 (wrap64 (a0_1 * (Int.tmod a2 17)))] 23 (0, 0)) (by (with_reducible repeat (first | refine blk_drewN ?_ _ | refine blk_drew ?_ | refine blk_alloc ?_ _)); exact BK509.out) hb)
                                                have n8_ := Aside0.mk (blk_below (g := gb524) (o := .cells #[.bool t519, .slice Ao72 t520.length co72] 57 (0, 0)) (by (with_reducible repeat (first | refine blk_drewN ?_ _ | refine blk_drew ?_ | refine blk_alloc ?_ _)); exact BK524.out) hb)
                                                have n9_ := Aside0.mk (Kd.C_below (by repeat (first | (with_reducible exact HR525_1.out) | (with_reducible refine Kd.C_alloc ?_ _) | (with_reducible refine Kd.C_drewN ?_ _) | (with_reducible refine Kd.C_drew ?_) | exact HR525_1.out)) hb)
                                                have n10_ := Aside0.mk (Kd.C_below (by repeat (first | (with_reducible exact HR526_1.out) | (with_reducible refine Kd.C_alloc ?_ _) | (with_reducible refine Kd.C_drewN ?_ _) | (with_reducible refine Kd.C_drew ?_) | exact HR526_1.out)) hb)
                                                have n11_ := Aside0.mk (below_step (by repeat (first | (with_reducible first | exact HB.out | apply below_alloc | apply pw_below_drewN | apply below_drew1 | refine below_set ?_ GE495.out | refine below_set ?_ GE509.out | refine below_set ?_ GE524.out) | exact HB.out)) hb)
                                                clear HO_7
                                                clear HO_12
                                                clear HO_525001
                                                clear HL525_1
                                                clear HL526_1
                                                clear HO530
                                                clear BK495
                                                clear BK509
                                                clear BK524
                                                clear HR525_1
                                                clear HR526_1
                                                clear HB
                                                have HO_7 := n0_
                                                have HO_12 := n1_
                                                have HO_525001 := n2_
                                                have HL525_1 := n3_
                                                have HL526_1 := n4_
                                                have HO530 := n5_
                                                have BK495 := n6_
                                                have BK509 := n7_
                                                have BK524 := n8_
                                                have HR525_1 := n9_
                                                have HR526_1 := n10_
                                                have HB := n11_
                                                clear n0_ n1_ n2_ n3_ n4_ n5_ n6_ n7_ n8_ n9_ n10_ n11_
                                                (try clear hb)
                                                (try clear hb2)
                                                (try clear hk)
                                                (try clear hi)
                                                refine hK.out _ _ ⟨(blk_cell BK524.out 0).trans rfl, (blk_cell BK524.out 1).trans rfl, HS2_, HS3_, HS4_, HS5_⟩ (fun hHeld => ?_)
                                                clear hK K
                                                refine norm_ (a' := ?_) ?_ ?_
                                                rotate_left
                                                · show Act.put _ (some 131) _ = _
                                                  simp only [Act.put, List.setIfInBounds_toArray, List.set_cons_zero, List.set_cons_succ, i64_w, i32_w]
                                                  rfl
                                                refine pure_ (i := 11) (N := some 132) (v := ?_) (a' := ?_) #[true, true, true, true, true, true, true, true, true, true, true, true] rfl rfl (any_of HT_.out (by kernel_rfl)) (fun _ _ _ h => h) (Or.inl ⟨by rfl, ?_⟩) ?_ ?_
                                                rotate_left
                                                · intro w'
                                                  go_simp
                                                  with_reducible rfl
                                                rotate_left
                                                · simp only [Act.put, List.setIfInBounds_toArray, List.set_cons_zero, List.set_cons_succ, i64_w, i32_w]
                                                  rfl
                                                refine done_ (done_of HT_.out (by kernel_rfl)) ?_
                                                try go_wp2
                                                go_roundg k6
                                                case measure => have := HJ6.out; have := HJ27.out; have := HK3.out; have := HJ43.out; have := HJ60.out; have := HK6.out; omega
                                                case rel => exact ⟨(wrap64 (x15_6 + 1)), (by first | rfl | (simp; done) | (simp [*]; done)), H', ⟨by have := HJ6.out; have := HJ27.out; have := HK3.out; have := HJ43.out; have := HJ60.out; have := HK6.out; omega⟩, ⟨by (with_reducible repeat (first | apply Kd.N_alloc | apply Kd.N_drewN | apply Kd.N_drew)); exact HO_7.out⟩, ⟨by (with_reducible repeat (first | apply Kd.N_alloc | apply Kd.N_drewN | apply Kd.N_drew)); exact HO_12.out⟩, ⟨by (with_reducible repeat (first | apply Kd.V_alloc | apply Kd.V_drewN | apply Kd.V_drew)); exact HO_525001.out⟩, ⟨by (with_reducible repeat (first | refine blk_drewN ?_ _ | refine blk_drew ?_ | refine blk_alloc ?_ _)); exact BK495.out⟩, ⟨by (with_reducible repeat (first | refine blk_drewN ?_ _ | refine blk_drew ?_ | refine blk_alloc ?_ _)); exact BK509.out⟩, ⟨by (with_reducible repeat (first | refine blk_drewN ?_ _ | refine blk_drew ?_ | refine blk_alloc ?_ _)); exact BK524.out⟩, ⟨by repeat (first | (with_reducible first | exact HB.out | apply below_alloc | apply pw_below_drewN | apply below_drew1 | refine below_set ?_ GE495.out | refine below_set ?_ GE509.out | refine below_set ?_ GE524.out) | exact HB.out)⟩⟩
                                              · rw [if_neg c83] at H
                                                have c83b0 : (t531 == 0) = false := beq_eq_false_iff_ne.mpr c83
                                                have c83b1 : (t531 != 0) = true := bne_iff_ne.mpr c83
                                                obtain rfl := Option.some.inj H
                                                exact absurd hT.out (by simp)
                                            · rw [if_neg c80] at H
                                              exact absurd H (by simp)
                                          · rw [if_neg c79] at H
                                            exact absurd H (by simp)
                                        · rw [if_neg c78] at H
                                          exact absurd H (by simp)
                                      · rw [if_neg c77] at H
                                        have c77b0 : decide (x15_6 < a1) = false := decide_eq_false c77
                                        clear c77
                                        obtain rfl := Option.some.inj H
                                        go_wp2
                                        go_ret
                                        exact ⟨by first | rfl | (simp [errW_none, errW_some] <;> rfl) | (simp [*, errW_none, errW_some] <;> rfl), by repeat (first | (with_reducible first | exact HB.out | apply below_alloc | apply pw_below_drewN | apply below_drew1 | refine below_set ?_ GE495.out | refine below_set ?_ GE509.out | refine below_set ?_ GE524.out) | exact HB.out)⟩
  · replace c5 := Bool.eq_false_iff.mpr c5
    subst c5
    have H1 : (some false) = some r := by rw [if_neg (show ¬ (false = true) by decide)] at H; exact H
    clear H
    have H := H1
    clear H1
    obtain rfl := Option.some.inj H
    exact absurd hT.out (by simp)

end Go.Proofs.Ytfkjmmpolingbaa.XA
end

section
/- Arguments opened by their kinds: what is read as data at a type is a Lean value of that type's kind. Of every seat alike; its own words alone. -/
namespace Go.Proofs.Ytfkjmmpolingbaa.Opn
open Go.ChangeShapes Go.WideShapes Go.Proofs.YtfkjmmpolingbaaW.PrintWords
set_option linter.unusedVariables false

/-- Whatever is read at type t is of kind d, and wf. -/
structure Opn {α : Type} (P : Program) (t : TypeId) (d : Kd α) (wf : α → Prop) : Prop where
  get : ∀ {H : Type} {enc : TypeId × Value → H} {w : World} {base : Nat} {spare : Nat → Bool} {held : Bool} {fuel : Nat} {cs : List Value} {x : DataW H × List MemPlace},
    DataW.trod enc P w base spare held fuel t cs = some x → (∀ n ∈ DataW.weights P t x.1, n ≤ reachBytes) → ∃ a : α, d.K w a cs ∧ wf a

section
variable {P : Program} {t : TypeId}
theorem opn_int {k : IntKind} (ht : P.underlying t = some (.int k)) : Opn P t (Kd.int k) (fun n => (Lit.int k n).wf = true) :=
  ⟨fun h _ => by
    obtain ⟨n, rfl, rfl, hw⟩ := DataW.trod_int ht h
    exact ⟨n, rfl, hw⟩⟩
/-- The fields of a struct, from offset off on. -/
structure OpnFs {α : Type} (P : Program) (fs : List Field) (off : Nat) (d : Kd α) (wf : α → Prop) : Prop where
  get : ∀ {H : Type} {enc : TypeId × Value → H} {w : World} {base : Nat} {spare : Nat → Bool} {held : Bool} {fuel : Nat} {cs : List Value} {xs : List (DataW H × List MemPlace)},
    cs.length = off + d.sz → xs.length = fs.length →
    (∀ (i : Nat) (f : Field), fs[i]? = some f → DataW.trod enc P w base spare held fuel f.type ((cs.drop f.offset).take (P.cellsOf f.type)) = xs[i]?) →
    (∀ n ∈ DataW.weightsEach P (fs.map (·.type)) (xs.map (·.1)), n ≤ reachBytes) → ∃ a : α, d.K w a (cs.drop off) ∧ wf a

theorem fs_one {α : Type} {f : Field} {off : Nat} {d : Kd α} {wf : α → Prop} (hoff : f.offset = off) (hC : P.cellsOf f.type = d.sz) (ho : Opn P f.type d wf) : OpnFs P [f] off d wf :=
  ⟨fun {H enc w base spare held fuel cs xs} hl hx hf hz => by
    match xs, hx with
    | [y], _ =>
      have h := hf 0 f rfl
      rw [hoff, hC, List.take_of_length_le (by simp; omega)] at h
      exact ho.get h (fun n hn => hz n (by simp only [List.map_cons, List.map_nil, DataW.weightsEach]; exact List.mem_append_left _ hn))⟩
theorem fs_cons {α β : Type} {f : Field} {fs : List Field} {off : Nat} {d : Kd α} {d' : Kd β} {wf : α → Prop} {wf' : β → Prop} (hoff : f.offset = off) (hC : P.cellsOf f.type = d.sz) (ho : Opn P f.type d wf) (hs : OpnFs P fs (off + d.sz) d' wf') :
    OpnFs P (f :: fs) off (Kd.pair d d') (fun x => wf x.1 ∧ wf' x.2) :=
  ⟨fun {H enc w base spare held fuel cs xs} hl hx hf hz => by
    match xs, hx with
    | y :: ys, hx =>
      have hl' : cs.length = off + (d.sz + d'.sz) := hl
      have h := hf 0 f rfl
      rw [hoff, hC] at h
      obtain ⟨a, hK, hwf⟩ := ho.get h (fun n hn => hz n (by simp only [List.map_cons, DataW.weightsEach]; exact List.mem_append_left _ hn))
      obtain ⟨b, hK', hwf'⟩ := hs.get (cs := cs) (xs := ys) (by omega) (by simpa using hx) (fun i g hg => by simpa using hf (i + 1) g (by simpa using hg))
        (fun n hn => hz n (by simp only [List.map_cons, DataW.weightsEach]; exact List.mem_append_right _ hn))
      refine ⟨(a, b), ⟨_, _, ?_, hK, hK'⟩, hwf, hwf'⟩
      rw [← List.drop_drop, List.take_append_drop]⟩
theorem opn_struct {α : Type} {fs : Array Field} {d : Kd α} {wf : α → Prop} (ht : P.underlying t = some (.struct fs)) (hC : P.cellsOf t = d.sz) (hs : OpnFs P fs.toList 0 d wf) : Opn P t d wf :=
  ⟨fun {H enc w base spare held fuel cs x} h hz => by
    obtain ⟨xs, n, rfl, rfl, hl, hxl, hf⟩ := DataW.trod_struct ht h
    have := hs.get (cs := cs) (xs := xs) (by rw [hl, hC]; simp) (by simpa using hxl) (fun i f hi => hf i f (by simpa using hi)) (fun n hn => hz n (by simp only [DataW.weights, ht]; exact hn))
    simpa using this⟩
/-- A Lean structure in the place of its fields' pairs. -/
theorem opn_iso {α β : Type} {d : Kd α} {wf : α → Prop} (f : β → α) (g : α → β) (hfg : ∀ a, f (g a) = a) (h : Opn P t d wf) : Opn P t (Kd.iso d f) (fun b => wf (f b)) :=
  ⟨fun ht hz => by
    obtain ⟨a, hK, hwf⟩ := h.get ht hz
    exact ⟨g a, by show d.K _ (f (g a)) _; rw [hfg]; exact hK, by rw [hfg]; exact hwf⟩⟩
end

section
variable {H : Type} {enc : TypeId × Value → H} {P : Program} {w : World} {base : Nat} {spare : Nat → Bool} {held : Bool} {t : TypeId}
theorem opened {α : Type} {d : Kd α} {wf : α → Prop} (ho : Opn P t d wf) {v : Value} {dd : DataW H} {ps : List MemPlace} {ts : List TypeId} {ds : List (DataW H)} {j : Nat}
    (hsz : (DataW.weightsEach P ts ds).all (· ≤ reachBytes) = true) (ht : ts[j]? = some t) (hd : ds[j]? = some dd) (h : DataW.Trod enc P w base spare held t v dd ps) : ∃ a : α, d.K w a v.cells.toList ∧ wf a := by
  obtain ⟨fuel, hf⟩ := h
  exact ho.get hf (fun n hn => by simpa using List.all_eq_true.1 hsz n (DataW.weights_mem_each ht hd n hn))
theorem trod_lt {v : Value} {d : DataW H} {ps : List MemPlace} (h : DataW.Trod enc P w base spare held t v d ps) : ∀ x ∈ ps, x.block < w.heap.size := by
  obtain ⟨m, hm⟩ := h
  exact DataW.trod_lt m _ _ _ hm
end
end Go.Proofs.Ytfkjmmpolingbaa.Opn
end

section
namespace Go.Proofs.Ytfkjmmpolingbaa.SaidPointPowers
open Go.RowKit Go.Proofs.YtfkjmmpolingbaaW.PrintWords Go.Proofs.YtfkjmmpolingbaaW.PrintLast Go.Proofs.Ytfkjmmpolingbaa.Opn Go.Proofs.Ytfkjmmpolingbaa.XA
set_option linter.unusedVariables false
/-- What is known of whatever is read at this type. -/
def wfS23 (x : S23) : Prop := (Lit.int .i64 x.f0).wf = true ∧ (Lit.int .i64 x.f1).wf = true
theorem opnS23 : Opn Try.prog 23 k23 wfS23 := opn_iso (fun x : S23 => (x.f0, x.f1)) (fun p => ⟨p.1, p.2⟩) (fun _ => rfl) (opn_struct Try.underlying23 (by kernel_rfl) (fs_cons rfl (by kernel_rfl) (opn_int Try.underlying3) (fs_one rfl (by kernel_rfl) (opn_int Try.underlying3))))
/-- THE PURE STATEMENT. -/
def Pure : Prop := ∀ (x0 : S23) (x1 : Int) (x2 : Int), wfS23 x0 → (Lit.int .i64 x1).wf = true → (Lit.int .i64 x2).wf = true → ∃ k, swagelaw06_PointPowers.f k x0.f0 x0.f1 x1 x2 = some true
end Go.Proofs.Ytfkjmmpolingbaa.SaidPointPowers
end

section
namespace Go.Proofs.Ytfkjmmpolingbaa.XA
open Go.RowKit Go.Proofs.YtfkjmmpolingbaaW.PrintWords Go.Proofs.YtfkjmmpolingbaaW.PrintLast Go.Proofs.YtfkjmmpolingbaaW.PrintMore
attribute [local go_sem] max2_int min2_int max_two min_two max_three min_three max_four min_four   -- for this text's walks alone
set_option linter.unusedVariables false
set_option linter.unusedSimpArgs false

attribute [local go_sem high] eqA23
/-! ### point_One: function 14 -/
def point_One.j0 : Nat → Bool → Int → Int → Int → Int → Option (Bool × Int)
  | 0, _, _, _, _, _ => none
  | k + 1, x13, x121000, x121001, x122000, x122001 => if x13 = true then (some (false, 2)) else ((point_norm.f k x121000 x121001).bind fun bt124 => ((point_norm.f k x122000 x122001).bind fun bt126 => (some ((bt124.1 == bt126.1 && (bt124.2 == bt126.2)), 0))))
def point_One.f (k : Nat) (a0_0 : Int) (a0_1 : Int) (a1_0 : Int) (a1_1 : Int) : Option (Bool × Int) := (point_In.f a0_0 a0_1).bind fun t122 => (if t122 = true then ((point_In.f a1_0 a1_1).bind fun t123 => (point_One.j0 k (!t123) a0_0 a0_1 a1_0 a1_1)) else (point_One.j0 k true a0_0 a0_1 a1_0 a1_1))
end Go.Proofs.Ytfkjmmpolingbaa.XA
end

section
namespace Go.Proofs.Ytfkjmmpolingbaa.XA
open Go.RowKit Go.Proofs.YtfkjmmpolingbaaW.PrintWords Go.Proofs.YtfkjmmpolingbaaW.PrintLast Go.Proofs.YtfkjmmpolingbaaW.PrintMore
attribute [local go_sem] max2_int min2_int max_two min_two max_three min_three max_four min_four   -- for this text's walks alone
set_option linter.unusedVariables false
set_option linter.unusedSimpArgs false

/-! ### point_Det: function 15 -/
def point_Det.f (a0_0 : Int) (a0_1 : Int) (a1_0 : Int) (a1_1 : Int) : Option (Int × Int) := (point_In.f a0_0 a0_1).bind fun t130 => (if t130 = true then ((point_In.f a1_0 a1_1).bind fun t131 => (if t131 = true then (some (wrap64 ((wrap64 (a0_0 * a1_1)) - (wrap64 (a1_0 * a0_1))), 0)) else (some (0, 2)))) else (some (0, 2)))
/-! ### swageref06_Common: function 34 -/
def swageref06_Common.l0 : Nat → Int → Int → Int → Int → Option (Int)
  | 0, _, _, _, _ => none
  | k + 1, x3, x4, x133000, x133001 => if x4 ≤ 16 then (if x4 = 0 then (none) else (if (Int.tmod x133000 x4) = 0 then (if (Int.tmod x133001 x4) = 0 then ((swageref06_None.f x133000 x133001).bind fun t133 => (if t133 = true then (swageref06_Common.l0 k x3 (wrap64 (x4 + 1)) x133000 x133001) else (swageref06_Common.l0 k x4 (wrap64 (x4 + 1)) x133000 x133001))) else (swageref06_Common.l0 k x3 (wrap64 (x4 + 1)) x133000 x133001)) else (swageref06_Common.l0 k x3 (wrap64 (x4 + 1)) x133000 x133001))) else (some x3)
def swageref06_Common.f (k : Nat) (a0_0 : Int) (a0_1 : Int) : Option (Int) := swageref06_Common.l0 k 0 1 a0_0 a0_1
end Go.Proofs.Ytfkjmmpolingbaa.XA
end

section
namespace Go.Proofs.Ytfkjmmpolingbaa.XA
open Go.RowKit Go.Proofs.YtfkjmmpolingbaaW.PrintWords Go.Proofs.YtfkjmmpolingbaaW.PrintLast Go.Proofs.YtfkjmmpolingbaaW.PrintMore
attribute [local go_sem] max2_int min2_int max_two min_two max_three min_three max_four min_four   -- for this text's walks alone
set_option linter.unusedVariables false
set_option linter.unusedSimpArgs false

/-! ### swageref06_Norm: function 16 -/
def swageref06_Norm.f (k : Nat) (a0_0 : Int) (a0_1 : Int) : Option (Int × Int) := (swageref06_Common.f k a0_0 a0_1).bind fun t136 => (if t136 = 0 then (some (a0_0, a0_1)) else (if a0_1 < 0 then (if (wrap64 (-t136)) = 0 then (none) else (some (wrap64 (Int.tdiv a0_0 (wrap64 (-t136))), wrap64 (Int.tdiv a0_1 (wrap64 (-t136)))))) else (if a0_1 = 0 then (if a0_0 < 0 then (if (wrap64 (-t136)) = 0 then (none) else (some (wrap64 (Int.tdiv a0_0 (wrap64 (-t136))), wrap64 (Int.tdiv a0_1 (wrap64 (-t136)))))) else (some (wrap64 (Int.tdiv a0_0 t136), wrap64 (Int.tdiv a0_1 t136)))) else (some (wrap64 (Int.tdiv a0_0 t136), wrap64 (Int.tdiv a0_1 t136))))))
end Go.Proofs.Ytfkjmmpolingbaa.XA
end

section
namespace Go.Proofs.Ytfkjmmpolingbaa.XA
open Go.RowKit Go.Proofs.YtfkjmmpolingbaaW.PrintWords Go.Proofs.YtfkjmmpolingbaaW.PrintLast Go.Proofs.YtfkjmmpolingbaaW.PrintMore
attribute [local go_sem] max2_int min2_int max_two min_two max_three min_three max_four min_four   -- for this text's walks alone
set_option linter.unusedVariables false
set_option linter.unusedSimpArgs false

/-! ### swageref06_Det: function 18 -/
def swageref06_Det.f (a0_0 : Int) (a0_1 : Int) (a1_0 : Int) (a1_1 : Int) : Option (Int) := some (wrap64 ((wrap64 (a0_0 * a1_1)) - (wrap64 (a1_0 * a0_1))))
/-! ### swageref06_One: function 17 -/
def swageref06_One.j0 : Nat → Bool → Int → Int → Int → Int → Option (Bool)
  | 0, _, _, _, _, _ => none
  | k + 1, x10, x140000, x140001, x141000, x141001 => if x10 = true then ((swageref06_None.f x140000 x140001).bind fun t143 => (if t143 = true then ((swageref06_None.f x141000 x141001).bind fun t144 => (some t144)) else (some false))) else ((swageref06_Det.f x140000 x140001 x141000 x141001).bind fun t145 => (some (t145 == 0)))
def swageref06_One.f (k : Nat) (a0_0 : Int) (a0_1 : Int) (a1_0 : Int) (a1_1 : Int) : Option (Bool) := (swageref06_None.f a0_0 a0_1).bind fun t141 => (if t141 = true then (swageref06_One.j0 k true a0_0 a0_1 a1_0 a1_1) else ((swageref06_None.f a1_0 a1_1).bind fun t142 => (swageref06_One.j0 k t142 a0_0 a0_1 a1_0 a1_1)))
end Go.Proofs.Ytfkjmmpolingbaa.XA
end

section
namespace Go.Proofs.Ytfkjmmpolingbaa.XA
open Go.RowKit Go.Proofs.YtfkjmmpolingbaaW.PrintWords Go.Proofs.YtfkjmmpolingbaaW.PrintLast Go.Proofs.YtfkjmmpolingbaaW.PrintMore
attribute [local go_sem] max2_int min2_int max_two min_two max_three min_three max_four min_four   -- for this text's walks alone
set_option linter.unusedVariables false
set_option linter.unusedSimpArgs false

attribute [local go_sem high] eqA23
/-! ### swagelaw06_PointNorms: function 3 -/
mutual
def swagelaw06_PointNorms.j0 : Nat → Bool → Bool → Bool → Int → Int → Int → Int → Option (Bool)
  | 0, _, _, _, _, _, _, _ => none
  | k + 1, x5, x6, x38, x147000, x147001, x148000, x148001 => if x38 = true then (some false) else ((point_Norm.f k x147000 x147001).bind fun bt155 => ((point_One.f k x147000 x147001 x148000 x148001).bind fun bt159 => ((point_Det.f x147000 x147001 x148000 x148001).bind fun bt161 => (if x5 = true then ((swageref06_Norm.f k x147000 x147001).bind fun bt163 => (if (!(bt155.1 == bt163.1) || (!(bt155.2.1 == bt163.2))) = true then (swagelaw06_PointNorms.j1 k x6 bt159.1 bt159.2 bt161.1 bt161.2 true x147000 x147001 x148000 x148001 bt155.1 bt155.2.1) else (swagelaw06_PointNorms.j1 k x6 bt159.1 bt159.2 bt161.1 bt161.2 (bt155.2.2 != 0) x147000 x147001 x148000 x148001 bt155.1 bt155.2.1))) else (if bt155.1 = 0 then (if bt155.2.1 = 0 then (if bt155.2.2 = 2 then (if bt159.1 = true then (some false) else (if bt159.2 = 2 then (if bt161.1 = 0 then (some (bt161.2 == 2)) else (some false)) else (some false))) else (some false)) else (some false)) else (some false))))))
def swagelaw06_PointNorms.j1 : Nat → Bool → Bool → Int → Int → Int → Bool → Int → Int → Int → Int → Int → Int → Option (Bool)
  | 0, _, _, _, _, _, _, _, _, _, _, _, _ => none
  | k + 1, x6, x9, x10, x11, x12, x93, x147000, x147001, x148000, x148001, x159000, x159001 => if x93 = true then (some false) else ((point_Norm.f k x159000 x159001).bind fun bt165 => (if (!(bt165.1 == x159000) || (!(bt165.2.1 == x159001))) = true then (swagelaw06_PointNorms.j2 k x6 x9 x10 x11 x12 true x147000 x147001 x148000 x148001 x159000 x159001) else (swagelaw06_PointNorms.j2 k x6 x9 x10 x11 x12 (bt165.2.2 != 0) x147000 x147001 x148000 x148001 x159000 x159001)))
def swagelaw06_PointNorms.j2 : Nat → Bool → Bool → Int → Int → Int → Bool → Int → Int → Int → Int → Int → Int → Option (Bool)
  | 0, _, _, _, _, _, _, _, _, _, _, _, _ => none
  | k + 1, x6, x9, x10, x11, x12, x105, x147000, x147001, x148000, x148001, x159000, x159001 => if x105 = true then (some false) else (if x6 = true then ((point_Det.f x148000 x148001 x147000 x147001).bind fun bt169 => ((point_Norm.f k x148000 x148001).bind fun bt171 => ((swageref06_One.f k x147000 x147001 x148000 x148001).bind fun t175 => (if (x9 == t175) = true then (if x10 = 0 then ((swageref06_Det.f x147000 x147001 x148000 x148001).bind fun t176 => (if x11 = t176 then (if x12 = 0 then (if bt169.1 = (wrap64 (-x11)) then (if bt169.2 = 0 then (if x11 ≤ 512 then (some ((bt171.1 == x159000 && (bt171.2.1 == x159001)) == x9)) else (some false)) else (some false)) else (some false)) else (some false)) else (some false))) else (some false)) else (some false))))) else (if x9 = true then (some false) else (if x10 = 2 then (if x11 = 0 then (some (x12 == 2)) else (some false)) else (some false))))
end
def swagelaw06_PointNorms.f (k : Nat) (a0_0 : Int) (a0_1 : Int) (a1_0 : Int) (a1_1 : Int) : Option (Bool) := (swagelaw06_live.f k).bind fun t148 => (if t148 = true then ((swageref06_In.f a0_0 a0_1).bind fun t149 => ((swageref06_In.f a1_0 a1_1).bind fun t150 => ((point_In.f a0_0 a0_1).bind fun t151 => (if (t151 != t149) = true then (swagelaw06_PointNorms.j0 k t149 t150 true a0_0 a0_1 a1_0 a1_1) else ((point_None.f a0_0 a0_1).bind fun t152 => ((swageref06_None.f a0_0 a0_1).bind fun t153 => (if (t152 != t153) = true then (swagelaw06_PointNorms.j0 k t149 t150 true a0_0 a0_1 a1_0 a1_1) else ((swagelaw06_live.f k).bind fun t154 => (swagelaw06_PointNorms.j0 k t149 t150 (!t154) a0_0 a0_1 a1_0 a1_1))))))))) else (some false))
end Go.Proofs.Ytfkjmmpolingbaa.XA
end

section
namespace Go.Proofs.Ytfkjmmpolingbaa.SaidPointNorms
open Go.RowKit Go.Proofs.YtfkjmmpolingbaaW.PrintWords Go.Proofs.YtfkjmmpolingbaaW.PrintLast Go.Proofs.Ytfkjmmpolingbaa.Opn Go.Proofs.Ytfkjmmpolingbaa.XA
set_option linter.unusedVariables false
/-- What is known of whatever is read at this type. -/
def wfS23 (x : S23) : Prop := (Lit.int .i64 x.f0).wf = true ∧ (Lit.int .i64 x.f1).wf = true
theorem opnS23 : Opn Try.prog 23 k23 wfS23 := opn_iso (fun x : S23 => (x.f0, x.f1)) (fun p => ⟨p.1, p.2⟩) (fun _ => rfl) (opn_struct Try.underlying23 (by kernel_rfl) (fs_cons rfl (by kernel_rfl) (opn_int Try.underlying3) (fs_one rfl (by kernel_rfl) (opn_int Try.underlying3))))
/-- THE PURE STATEMENT. -/
def Pure : Prop := ∀ (x0 : S23) (x1 : S23), wfS23 x0 → wfS23 x1 → ∃ k, swagelaw06_PointNorms.f k x0.f0 x0.f1 x1.f0 x1.f1 = some true
end Go.Proofs.Ytfkjmmpolingbaa.SaidPointNorms
end

section
namespace Go.Proofs.Ytfkjmmpolingbaa.XA
open Go.RowKit Go.Proofs.YtfkjmmpolingbaaW.PrintWords Go.Proofs.YtfkjmmpolingbaaW.PrintLast Go.Proofs.YtfkjmmpolingbaaW.PrintMore
attribute [local go_sem] max2_int min2_int max_two min_two max_three min_three max_four min_four   -- for this text's walks alone
set_option linter.unusedVariables false
set_option linter.unusedSimpArgs false

/-! ### point_Twins: function 19 -/
mutual
def point_Twins.l0 : Nat → List (S23) → List (S23) → Int → Int → Option (Int × Int × Bool)
  | 0, _, _, _, _ => none
  | k + 1, x0, x11, x12, x13 => if x13 < x12 then (if 0 ≤ x13 then (if x13 < (x11.length : Int) then (if x13 ≤ (x0.length : Int) then ((some (x0.take (x13 : Int).toNat : List (S23))).bind fun y179 => (point_Twins.l1 k x0 x13 x11 x12 x13 y179 (y179.length : Int) 0 ((rd_T23 x11 x13).f0) ((rd_T23 x11 x13).f1))) else (none)) else (none)) else (none)) else (some (0, 0, false))
def point_Twins.l1 : Nat → List (S23) → Int → List (S23) → Int → Int → List (S23) → Int → Int → Int → Int → Option (Int × Int × Bool)
  | 0, _, _, _, _, _, _, _, _, _, _ => none
  | k + 1, x0, x5, x11, x12, x13, x20, x21, x22, x179000, x179001 => if x22 < x21 then (if 0 ≤ x22 then (if x22 < (x20.length : Int) then ((point_One.f k ((rd_T23 x20 x22).f0) ((rd_T23 x20 x22).f1) x179000 x179001).bind fun bt185 => (if bt185.1 = true then (some (x22, x5, true)) else (point_Twins.l1 k x0 x5 x11 x12 x13 x20 x21 (wrap64 (x22 + 1)) x179000 x179001))) else (none)) else (none)) else (point_Twins.l0 k x0 x11 x12 (wrap64 (x13 + 1)))
end
def point_Twins.f (k : Nat) (l0 : List (S23)) : Option (Int × Int × Bool) := point_Twins.l0 k l0 l0 (l0.length : Int) 0
end Go.Proofs.Ytfkjmmpolingbaa.XA
end

section
namespace Go.Proofs.Ytfkjmmpolingbaa.XA
open Go.RowKit Go.Proofs.YtfkjmmpolingbaaW.PrintWords Go.Proofs.YtfkjmmpolingbaaW.PrintLast Go.Proofs.YtfkjmmpolingbaaW.PrintMore
attribute [local go_sem] max2_int min2_int max_two min_two max_three min_three max_four min_four   -- for this text's walks alone
set_option linter.unusedVariables false
set_option linter.unusedSimpArgs false

/-! ### swageref06_Twins: function 20 -/
mutual
def swageref06_Twins.l0 : Nat → List (S23) → Int → Option (Int × Int × Bool)
  | 0, _, _ => none
  | k + 1, x0, x5 => if x5 < (x0.length : Int) then (swageref06_Twins.l1 k x0 x5 0) else (some (0, 0, false))
def swageref06_Twins.l1 : Nat → List (S23) → Int → Int → Option (Int × Int × Bool)
  | 0, _, _, _ => none
  | k + 1, x0, x5, x6 => if x6 < x5 then (if 0 ≤ x6 then (if x6 < (x0.length : Int) then ((swageref06_In.f ((rd_T23 x0 x6).f0) ((rd_T23 x0 x6).f1)).bind fun t188 => (if t188 = true then (if 0 ≤ x5 then (if x5 < (x0.length : Int) then ((swageref06_In.f ((rd_T23 x0 x5).f0) ((rd_T23 x0 x5).f1)).bind fun t190 => (if t190 = true then ((swageref06_One.f k ((rd_T23 x0 x6).f0) ((rd_T23 x0 x6).f1) ((rd_T23 x0 x5).f0) ((rd_T23 x0 x5).f1)).bind fun t193 => (if t193 = true then (some (x6, x5, true)) else (swageref06_Twins.l1 k x0 x5 (wrap64 (x6 + 1))))) else (swageref06_Twins.l1 k x0 x5 (wrap64 (x6 + 1))))) else (none)) else (none)) else (swageref06_Twins.l1 k x0 x5 (wrap64 (x6 + 1))))) else (none)) else (none)) else (swageref06_Twins.l0 k x0 (wrap64 (x5 + 1)))
end
def swageref06_Twins.f (k : Nat) (l0 : List (S23)) : Option (Int × Int × Bool) := swageref06_Twins.l0 k l0 0
end Go.Proofs.Ytfkjmmpolingbaa.XA
end

section
namespace Go.Proofs.Ytfkjmmpolingbaa.XA
open Go.RowKit Go.Proofs.YtfkjmmpolingbaaW.PrintWords Go.Proofs.YtfkjmmpolingbaaW.PrintLast Go.Proofs.YtfkjmmpolingbaaW.PrintMore
attribute [local go_sem] max2_int min2_int max_two min_two max_three min_three max_four min_four   -- for this text's walks alone
set_option linter.unusedVariables false
set_option linter.unusedSimpArgs false

/-! ### swagelaw06_PointTwins: function 4 -/
def swagelaw06_PointTwins.f (k : Nat) (l0 : List (S23)) : Option (Bool) := (swagelaw06_live.f k).bind fun t194 => (if t194 = true then (if (l0.length : Int) > 300 then (some true) else ((point_Twins.f k l0).bind fun bt195 => ((swageref06_Twins.f k l0).bind fun bt198 => (if bt195.1 = bt198.1 then (if bt195.2.1 = bt198.2.1 then (if (bt195.2.2 == bt198.2.2) = true then ((swagelaw06_live.f k).bind fun t201 => (some t201)) else (some false)) else (some false)) else (some false))))) else (some false))

end Go.Proofs.Ytfkjmmpolingbaa.XA
end

section
namespace Go.Proofs.Ytfkjmmpolingbaa.SaidPointTwins
open Go.RowKit Go.Proofs.YtfkjmmpolingbaaW.PrintWords Go.Proofs.YtfkjmmpolingbaaW.PrintLast Go.Proofs.Ytfkjmmpolingbaa.Opn Go.Proofs.Ytfkjmmpolingbaa.XA
set_option linter.unusedVariables false
/-- What is known of whatever is read at this type. -/
def wfS23 (x : S23) : Prop := (Lit.int .i64 x.f0).wf = true ∧ (Lit.int .i64 x.f1).wf = true
theorem opnS23 : Opn Try.prog 23 k23 wfS23 := opn_iso (fun x : S23 => (x.f0, x.f1)) (fun p => ⟨p.1, p.2⟩) (fun _ => rfl) (opn_struct Try.underlying23 (by kernel_rfl) (fs_cons rfl (by kernel_rfl) (opn_int Try.underlying3) (fs_one rfl (by kernel_rfl) (opn_int Try.underlying3))))
/-- THE PURE STATEMENT. -/
def Pure : Prop := ∀ (x0 : List (S23)), (x0.length * 16 ≤ 140737488351232 ∧ x0.length ≤ 9223372036854775807 ∧ ∀ y ∈ x0, wfS23 y) → ∃ k, swagelaw06_PointTwins.f k x0 = some true
end Go.Proofs.Ytfkjmmpolingbaa.SaidPointTwins
end

section
/- Points: what the printed functions come to, by numbers alone. -/
namespace Go.Proofs.Ytfkjmmpolingbaa.PlainPoint
open Go.RowKit Go.Proofs.YtfkjmmpolingbaaW.PrintWords Go.Proofs.YtfkjmmpolingbaaW.PrintLast Go.Proofs.Ytfkjmmpolingbaa.XA
set_option linter.unusedVariables false
set_option linter.unusedSimpArgs false

def inR (a b : Int) : Bool := decide (-16 ≤ a) && (decide (a ≤ 16) && (decide (-16 ≤ b) && decide (b ≤ 16)))
theorem inR_iff {a b : Int} : inR a b = true ↔ -16 ≤ a ∧ a ≤ 16 ∧ -16 ≤ b ∧ b ≤ 16 := by simp [inR]

theorem in_at (a b : Int) : point_In.f a b = some (inR a b) := by
  unfold point_In.f point_within.f inR
  by_cases h1 : -16 ≤ a <;> by_cases h2 : a ≤ 16 <;> by_cases h3 : -16 ≤ b <;> by_cases h4 : b ≤ 16 <;> simp [h1, h2, h3, h4]
theorem refIn_at (a b : Int) : swageref06_In.f a b = some (inR a b) := by
  unfold swageref06_In.f inR
  by_cases h1 : -16 ≤ a <;> by_cases h2 : a ≤ 16 <;> by_cases h3 : -16 ≤ b <;> by_cases h4 : b ≤ 16 <;> simp [h1, h2, h3, h4]

/-- The norm, as it is reckoned. -/
def nrm (a b : Int) : Int × Int := (point_norm.f 60 a b).getD (0, 0)
def fac (a b : Int) : Int := if (nrm a b).1 = 0 then (if (nrm a b).2 = 0 then 0 else a + b / (nrm a b).2) else a / (nrm a b).1
def chk (a b : Int) : Bool :=
  point_norm.f 60 a b == some (nrm a b) && (swageref06_Norm.f 60 a b == some (nrm a b) && (inR (nrm a b).1 (nrm a b).2 && (point_norm.f 60 (nrm a b).1 (nrm a b).2 == some (nrm a b) &&
    (if a == 0 && b == 0 then nrm a b == (0, 0) else
      fac a b != 0 && (a == fac a b * (nrm a b).1 && (b == fac a b * (nrm a b).2 && (Int.gcd (nrm a b).1 (nrm a b).2 == 1 && (decide (0 < (nrm a b).2) || ((nrm a b).2 == 0 && decide (0 < (nrm a b).1))))))))))
theorem all_chk : ((List.range 33).all fun i => (List.range 33).all fun j => chk ((i : Int) - 16) ((j : Int) - 16)) = true := by decide +kernel
theorem chk_of {a b : Int} (h : inR a b = true) : chk a b = true := by
  obtain ⟨h1, h2, h3, h4⟩ := inR_iff.1 h
  have h0 := List.all_eq_true.1 all_chk (a + 16).toNat (by simp; omega)
  have h5 := List.all_eq_true.1 h0 (b + 16).toNat (by simp; omega)
  rw [show (((a + 16).toNat : Nat) : Int) - 16 = a by omega, show (((b + 16).toNat : Nat) : Int) - 16 = b by omega] at h5
  exact h5

theorem norm60 {a b : Int} (h : inR a b = true) : point_norm.f 60 a b = some (nrm a b) := by
  have := chk_of h
  simp only [chk, Bool.and_eq_true, beq_iff_eq] at this
  exact this.1
theorem norm_at {a b : Int} (h : inR a b = true) {k : Nat} (hk : 60 ≤ k) : point_norm.f k a b = some (nrm a b) := at_rounds (fun k => point_norm.mono a b k) hk (norm60 h)
theorem wrap_in {x : Int} (h : -9223372036854775808 ≤ x ∧ x ≤ 9223372036854775807) : wrap64 x = x := by unfold wrap64; omega
/-- Are two points one? -/
def one (a b c d : Int) : Bool := (nrm a b).1 == (nrm c d).1 && (nrm a b).2 == (nrm c d).2
theorem Norm_at {a b : Int} (h : inR a b = true) {k : Nat} (hk : 60 ≤ k) : point_Norm.f k a b = some ((nrm a b).1, (nrm a b).2, 0) := by
  unfold point_Norm.f
  rw [in_at, h]
  simp [norm_at h hk]
theorem nrm46 : nrm 4 (-6) = (-2, 3) := by decide +kernel
theorem live_at {k : Nat} (hk : 60 ≤ k) : swagelaw06_live.f k = some true := by
  unfold swagelaw06_live.f
  rw [Norm_at (by decide) hk, nrm46]
  rfl
end Go.Proofs.Ytfkjmmpolingbaa.PlainPoint
end

section
/- Rounds that suffice: words beside the printer's 'Ev'. -/
namespace Go.Proofs.Ytfkjmmpolingbaa.Evs
open Go.Proofs.YtfkjmmpolingbaaW.PrintWords
section
variable {β : Type} {c : Prop} [Decidable c] {f g : Nat → Option β} {r : β}
theorem ev_pos (hc : c) (h : Ev f r) : Ev (fun n => if c then f n else g n) r := Ev.congr (fun _ => if_pos hc) h
theorem ev_neg (hc : ¬ c) (h : Ev g r) : Ev (fun n => if c then f n else g n) r := Ev.congr (fun _ => if_neg hc) h
end
end Go.Proofs.Ytfkjmmpolingbaa.Evs
end

section
/- Lists told by their places. -/
namespace Go.Proofs.Ytfkjmmpolingbaa.Tabs
set_option linter.unusedVariables false
section
variable {α β : Type}
def tab (n : Nat) (g : Nat → α) : List α := (List.range n).map g
theorem tab_length (n : Nat) (g : Nat → α) : (tab n g).length = n := by simp [tab]
theorem tab_succ (n : Nat) (g : Nat → α) : tab (n + 1) g = tab n g ++ [g n] := by simp [tab, List.range_succ]
theorem tab_getElem? {n i : Nat} (g : Nat → α) (h : i < n) : (tab n g)[i]? = some (g i) := by
  unfold tab; rw [List.getElem?_map, List.getElem?_range h]; rfl
theorem tab_getD {n i : Nat} (g : Nat → α) (d : α) (h : i < n) : (tab n g).getD i d = g i := by
  rw [List.getD_eq_getElem?_getD, tab_getElem? g h]; rfl
theorem tab_congr {n : Nat} {g h : Nat → α} (e : ∀ i, i < n → g i = h i) : tab n g = tab n h := by
  unfold tab; apply List.map_congr_left; intro i hi; exact e i (List.mem_range.1 hi)
theorem tab_ext {n : Nat} {l : List α} {g : Nat → α} (hl : l.length = n) (h : ∀ i, i < n → l[i]? = some (g i)) : l = tab n g := by
  apply List.ext_getElem?
  intro i
  by_cases hi : i < n
  · rw [h i hi, tab_getElem? g hi]
  · rw [List.getElem?_eq_none (by omega), List.getElem?_eq_none (by rw [tab_length]; omega)]
theorem tab_set (n i : Nat) (v : α) (g : Nat → α) : (tab n g).set i v = tab n (fun j => if j = i then v else g j) := by
  refine tab_ext (by rw [List.length_set, tab_length]) ?_
  intro j hj
  by_cases h : j = i
  · subst h; rw [List.getElem?_set_self (by rw [tab_length]; exact hj), if_pos rfl]
  · rw [List.getElem?_set_ne (fun h' => h h'.symm), tab_getElem? g hj, if_neg h]
theorem tab_replicate (n : Nat) (v : α) : List.replicate n v = tab n (fun _ => v) := by
  refine tab_ext (by simp) ?_
  intro i hi; rw [List.getElem?_replicate, if_pos hi]
end
end Go.Proofs.Ytfkjmmpolingbaa.Tabs
end

section
/- Numbers as digits: plain laws, no program in sight. -/
namespace Go.Proofs.Ytfkjmmpolingbaa.Nums
open Go Go.RowKit Go.Proofs.YtfkjmmpolingbaaW.PrintWords
set_option linter.unusedVariables false
set_option linter.unusedSimpArgs false

theorem wrap64_in {x : Int} (h : -9223372036854775808 ≤ x) (h' : x ≤ 9223372036854775807) : wrap64 x = x := by unfold wrap64; omega
theorem u64_in {x : Int} (h : 0 ≤ x) (h' : x < 18446744073709551616) : IntKind.u64.wrap x = x := by
  simp [IntKind.wrap, IntKind.bits, IntKind.signed]; omega
theorem tdiv_pos {x y : Int} (h : 0 ≤ x) : Int.tdiv x y = x / y := Int.tdiv_eq_ediv_of_nonneg h
theorem tmod_pos {x y : Int} (h : 0 ≤ x) : Int.tmod x y = x % y := Int.tmod_eq_emod_of_nonneg h

/-- What a row of digits is worth, the lowest first. -/
def val (b : Int) : List Int → Int
  | [] => 0
  | d :: l => d + b * val b l
def dig (b : Int) (l : List Int) : Prop := ∀ d ∈ l, 0 ≤ d ∧ d < b
/-- Without the noughts at the top. -/
def strip : List Int → List Int
  | [] => []
  | d :: l => if strip l = [] then (if d = 0 then [] else [d]) else d :: strip l
def digsF (b : Nat) : Nat → Nat → List Int
  | 0, _ => []
  | f + 1, n => if n = 0 then [] else ((n % b : Nat) : Int) :: digsF b f (n / b)
/-- The digits of a number. -/
def digs (b n : Nat) : List Int := digsF b n n

theorem digsF_eq {b : Nat} (hb : 2 ≤ b) : ∀ f g n, n ≤ f → n ≤ g → digsF b f n = digsF b g n
  | 0, 0, n, _, _ => rfl
  | 0, g + 1, n, h, _ => by obtain rfl : n = 0 := by omega
                            simp [digsF]
  | f + 1, 0, n, _, h => by obtain rfl : n = 0 := by omega
                            simp [digsF]
  | f + 1, g + 1, n, hf, hg => by
    simp only [digsF]
    by_cases h0 : n = 0
    · simp [h0]
    · rw [if_neg h0, if_neg h0]
      have : n / b < n := Nat.div_lt_self (by omega) hb
      rw [digsF_eq hb f g (n / b) (by omega) (by omega)]
theorem digs_zero (b : Nat) : digs b 0 = [] := rfl
theorem digs_pos {b n : Nat} (hb : 2 ≤ b) (h : 0 < n) : digs b n = ((n % b : Nat) : Int) :: digs b (n / b) := by
  obtain ⟨m, rfl⟩ : ∃ m, n = m + 1 := ⟨n - 1, by omega⟩
  have : (m + 1) / b < m + 1 := Nat.div_lt_self (by omega) hb
  show digsF b (m + 1) (m + 1) = _
  simp only [digsF]
  rw [if_neg (by omega)]
  rw [digsF_eq hb m ((m + 1) / b) ((m + 1) / b) (by omega) (Nat.le_refl _)]
  rfl
theorem digs_ind {b : Nat} (hb : 2 ≤ b) {P : Nat → Prop} (h0 : P 0) (hs : ∀ n, 0 < n → P (n / b) → P n) : ∀ n, P n := by
  intro n
  induction n using Nat.strongRecOn with
  | ind n ih =>
    by_cases h : n = 0
    · exact h ▸ h0
    · exact hs n (by omega) (ih _ (Nat.div_lt_self (by omega) hb))
theorem dig_digs {b : Nat} (hb : 2 ≤ b) (n : Nat) : dig b (digs b n) := by
  refine digs_ind hb (P := fun n => dig b (digs b n)) ?_ ?_ n
  · intro d hd; simp [digs_zero] at hd
  · intro n hn ih d hd
    rw [digs_pos hb hn] at hd
    rcases List.mem_cons.1 hd with rfl | hd
    · have := Nat.mod_lt n (show b > 0 by omega)
      omega
    · exact ih d hd
theorem val_digs {b : Nat} (hb : 2 ≤ b) (n : Nat) : val b (digs b n) = n := by
  refine digs_ind hb (P := fun n => val b (digs b n) = n) ?_ ?_ n
  · rfl
  · intro n hn ih
    rw [digs_pos hb hn]
    show ((n % b : Nat) : Int) + (b : Int) * val b (digs b (n / b)) = n
    rw [ih]
    have := Nat.mod_add_div n b
    exact_mod_cast this
theorem digs_eq_nil {b : Nat} (hb : 2 ≤ b) {n : Nat} : digs b n = [] ↔ n = 0 := by
  constructor
  · intro h
    by_cases h0 : n = 0
    · exact h0
    · rw [digs_pos hb (by omega)] at h
      simp at h
  · rintro rfl; rfl
theorem val_nonneg {b : Nat} {l : List Int} (h : dig b l) : 0 ≤ val b l := by
  induction l with
  | nil => simp [val]
  | cons d l ih =>
    have h1 := ih fun x hx => h x (List.mem_cons_of_mem _ hx)
    have h2 := h d (List.mem_cons_self ..)
    have h3 : (0 : Int) ≤ (b : Int) * val b l := Int.mul_nonneg (by omega) h1
    show (0 : Int) ≤ d + (b : Int) * val b l
    omega
theorem strip_digs {b : Nat} (hb : 2 ≤ b) {l : List Int} (h : dig b l) : digs b (val b l).toNat = strip l := by
  induction l with
  | nil => rfl
  | cons d l ih =>
    have hl : dig b l := fun x hx => h x (List.mem_cons_of_mem _ hx)
    have hd := h d (List.mem_cons_self ..)
    have ih := ih hl
    have hv := val_nonneg hl
    have e : val b (d :: l) = d + (b : Int) * val b l := rfl
    obtain ⟨v, hv'⟩ : ∃ v : Nat, val b l = v := ⟨(val b l).toNat, by omega⟩
    obtain ⟨d', hd'⟩ : ∃ d' : Nat, d = d' := ⟨d.toNat, by omega⟩
    have hdb : d' < b := by omega
    rw [hv', Int.toNat_natCast] at ih
    have en : (val b (d :: l)).toNat = d' + b * v := by
      rw [e, hv', hd']
      exact_mod_cast Int.toNat_natCast (d' + b * v)
    rw [en]
    simp only [strip]
    by_cases hs : strip l = []
    · rw [if_pos hs]
      rw [hs] at ih
      have h0 : v = 0 := (digs_eq_nil hb).1 ih
      subst h0
      by_cases h1 : d = 0
      · rw [if_pos h1]
        have : d' = 0 := by omega
        subst this
        rfl
      · rw [if_neg h1]
        rw [Nat.mul_zero, Nat.add_zero, digs_pos hb (by omega), Nat.mod_eq_of_lt hdb, Nat.div_eq_of_lt hdb, ← hd']
        rfl
    · rw [if_neg hs]
      have hv0 : v ≠ 0 := by
        rintro rfl
        exact hs (ih.symm.trans rfl)
      have : 0 < b * v := Nat.mul_pos (by omega) (by omega)
      rw [digs_pos hb (by omega)]
      rw [Nat.add_mul_mod_self_left, Nat.mod_eq_of_lt hdb, Nat.add_mul_div_left _ _ (by omega), Nat.div_eq_of_lt hdb, Nat.zero_add, ih, hd']
theorem digs_of {b : Nat} (hb : 2 ≤ b) {l : List Int} (h : dig b l) {n : Nat} (hn : val b l = n) : strip l = digs b n := by
  rw [← strip_digs hb h, hn, Int.toNat_natCast]
theorem strip_of_digs {b : Nat} (hb : 2 ≤ b) (n : Nat) : strip (digs b n) = digs b n := digs_of hb (dig_digs hb n) (val_digs hb n)
theorem strip_snoc (l : List Int) (d : Int) : strip (l ++ [d]) = if d = 0 then strip l else l ++ [d] := by
  induction l with
  | nil => by_cases h : d = 0 <;> simp [strip, h]
  | cons x l ih =>
    simp only [List.cons_append, strip, ih]
    by_cases h : d = 0
    · simp only [h, if_true]
    · simp only [h, if_false]
      rw [if_neg (by simp)]
theorem strip_len (l : List Int) : (strip l).length ≤ l.length := by
  induction l with
  | nil => simp [strip]
  | cons d l ih =>
    simp only [strip]
    split
    · split <;> simp
    · simp only [List.length_cons]; omega
theorem digs_len {b : Nat} (hb : 2 ≤ b) : ∀ m n, n < b ^ m → (digs b n).length ≤ m
  | 0, n, h => by
    have : n = 0 := by simpa using h
    subst this; simp [digs_zero]
  | m + 1, n, h => by
    by_cases h0 : n = 0
    · subst h0; simp [digs_zero]
    · rw [digs_pos hb (by omega)]
      have : n / b < b ^ m := by
        rw [Nat.div_lt_iff_lt_mul (by omega)]
        rwa [Nat.pow_succ] at h
      have := digs_len hb m (n / b) this
      simp only [List.length_cons]; omega
theorem lt_pow_len {b : Nat} (hb : 2 ≤ b) (n : Nat) : n < b ^ (digs b n).length := by
  refine digs_ind hb (P := fun n => n < b ^ (digs b n).length) (by simp [digs_zero]) ?_ n
  intro n hn ih
  rw [digs_pos hb hn, List.length_cons, Nat.pow_succ]
  have h2 : n < b * (n / b + 1) := Nat.lt_mul_div_succ n (by omega)
  calc n < b * (n / b + 1) := h2
    _ ≤ b * b ^ (digs b (n / b)).length := Nat.mul_le_mul_left _ ih
    _ = b ^ (digs b (n / b)).length * b := Nat.mul_comm _ _
theorem pow_len_le {b : Nat} (hb : 2 ≤ b) {n m : Nat} (h : b ^ m ≤ n) : m < (digs b n).length := by
  have h1 := lt_pow_len hb n
  have h2 : b ^ m < b ^ (digs b n).length := by omega
  exact (Nat.pow_lt_pow_iff_right (by omega)).1 h2
theorem val_snoc (b : Int) (l : List Int) (d : Int) : val b (l ++ [d]) = val b l + d * b ^ l.length := by
  induction l with
  | nil => simp [val]
  | cons x l ih =>
    simp only [List.cons_append, val, ih, List.length_cons, Int.pow_succ, Int.mul_add]
    rw [Int.mul_comm (b ^ l.length) b, ← Int.mul_assoc b d, Int.mul_comm b d, Int.mul_assoc d b]
    omega
theorem val_append (b : Int) (l m : List Int) : val b (l ++ m) = val b l + b ^ l.length * val b m := by
  induction l with
  | nil => simp [val]
  | cons x l ih =>
    simp only [List.cons_append, val, ih, List.length_cons, Int.pow_succ, Int.mul_add]
    rw [Int.mul_comm (b ^ l.length) b, ← Int.mul_assoc b]
    omega
theorem val_replicate (b : Int) (n : Nat) : val b (List.replicate n 0) = 0 := by
  induction n with
  | zero => rfl
  | succ n ih => simp [List.replicate_succ, val, ih]
theorem dig_replicate {b : Int} (hb : 0 < b) (n : Nat) : dig b (List.replicate n 0) := by
  intro d hd
  obtain rfl := List.eq_of_mem_replicate hd
  exact ⟨Int.le_refl _, hb⟩
theorem dig_nil (b : Int) : dig b [] := by intro d hd; simp at hd
theorem dig_cons {b d : Int} {l : List Int} (h0 : 0 ≤ d) (h1 : d < b) (h : dig b l) : dig b (d :: l) := by
  intro x hx
  rcases List.mem_cons.1 hx with rfl | hx
  · exact ⟨h0, h1⟩
  · exact h x hx
theorem dig_append {b : Int} {l m : List Int} (h : dig b l) (h' : dig b m) : dig b (l ++ m) := by
  intro x hx
  rcases List.mem_append.1 hx with hx | hx
  · exact h x hx
  · exact h' x hx
theorem dig_take {b : Int} {l : List Int} (h : dig b l) (n : Nat) : dig b (l.take n) := fun x hx => h x (List.mem_of_mem_take hx)
theorem dig_set {b d : Int} {l : List Int} (h : dig b l) (h0 : 0 ≤ d) (h1 : d < b) (n : Nat) : dig b (l.set n d) := by
  intro x hx
  rcases List.mem_or_eq_of_mem_set hx with hx | rfl
  · exact h x hx
  · exact ⟨h0, h1⟩
theorem rd_nat (l : List Int) (n : Nat) : rd l (n : Int) = l.getD n 0 := rfl
theorem rd_lt {b : Int} {l : List Int} (h : dig b l) {n : Nat} (hn : n < l.length) : 0 ≤ rd l (n : Int) ∧ rd l (n : Int) < b := by
  rw [rd_nat, List.getD_eq_getElem?_getD, List.getElem?_eq_getElem hn]
  exact h _ (List.getElem_mem hn)
theorem rd_of {l : List Int} {n : Nat} (hn : n < l.length) : rd l (n : Int) = l[n] := by
  rw [rd_nat, List.getD_eq_getElem?_getD, List.getElem?_eq_getElem hn]; rfl
theorem take_snoc {l : List Int} {n : Nat} (hn : n < l.length) : l.take (n + 1) = l.take n ++ [rd l (n : Int)] := by
  rw [rd_of hn, List.take_succ_eq_append_getElem hn]
theorem val_take_succ (b : Int) {l : List Int} {n : Nat} (hn : n < l.length) : val b (l.take (n + 1)) = val b (l.take n) + rd l (n : Int) * b ^ n := by
  rw [take_snoc hn, val_snoc, List.length_take, Nat.min_eq_left (by omega)]
theorem val_set (b : Int) (d : Int) : ∀ (l : List Int) (n : Nat), n < l.length → val b (l.set n d) = val b l + (d - rd l (n : Int)) * b ^ n
  | [], n, h => by simp at h
  | x :: l, 0, h => by
    simp only [List.set_cons_zero, val, rd_nat, Int.pow_zero, Int.mul_one]
    show d + b * val b l = x + b * val b l + (d - x)
    omega
  | x :: l, n + 1, h => by
    have ih := val_set b d l n (by simpa using h)
    simp only [List.set_cons_succ, val, ih]
    rw [rd_nat, rd_nat, show (x :: l).getD (n + 1) 0 = l.getD n 0 from rfl, Int.mul_add, Int.pow_succ, Int.mul_comm (b ^ n) b]
    have e : b * ((d - l.getD n 0) * b ^ n) = (d - l.getD n 0) * (b * b ^ n) := by rw [← Int.mul_assoc, Int.mul_comm b, Int.mul_assoc]
    rw [e]
    omega
theorem rd_set_ne {l : List Int} {m n : Nat} (d : Int) (h : m ≠ n) : rd (l.set m d) (n : Int) = rd l (n : Int) := by
  rw [rd_nat, rd_nat, List.getD_eq_getElem?_getD, List.getD_eq_getElem?_getD, List.getElem?_set_ne h]
theorem rd_out {l : List Int} {n : Nat} (h : l.length ≤ n) : rd l (n : Int) = 0 := by
  rw [rd_nat, List.getD_eq_getElem?_getD, List.getElem?_eq_none h]; rfl
theorem rd_replicate (m n : Nat) : rd (List.replicate m 0) (n : Int) = 0 := by
  by_cases h : n < m
  · rw [rd_of (by simpa using h)]; simp
  · exact rd_out (by simpa using Nat.le_of_not_lt h)
theorem val_lt {b : Int} (hb : 0 < b) {l : List Int} (h : dig b l) : val b l < b ^ l.length := by
  induction l with
  | nil => simp [val]
  | cons d l ih =>
    have h1 := ih fun x hx => h x (List.mem_cons_of_mem _ hx)
    have h2 := h d (List.mem_cons_self ..)
    have h3 : b * (val b l + 1) ≤ b * b ^ l.length := Int.mul_le_mul_of_nonneg_left (by omega) (by omega)
    rw [Int.mul_add, Int.mul_one] at h3
    show d + b * val b l < b ^ (l.length + 1)
    rw [Int.pow_succ, Int.mul_comm (b ^ l.length) b]
    omega

/-- A power that no tactic opens. -/
def pw (b : Int) (n : Nat) : Int := b ^ n
theorem pw_eq (b : Int) (n : Nat) : pw b n = b ^ n := rfl
theorem pw_zero (b : Int) : pw b 0 = 1 := by simp [pw]
theorem pw_succ (b : Int) (n : Nat) : pw b (n + 1) = pw b n * b := Int.pow_succ ..
theorem pw_add (b : Int) (m n : Nat) : pw b (m + n) = pw b m * pw b n := Int.pow_add ..
theorem pw_nonneg {b : Int} (hb : 0 ≤ b) (n : Nat) : 0 ≤ pw b n := Int.pow_nonneg hb
theorem val_setP (b : Int) (d : Int) {l : List Int} {n : Nat} (h : n < l.length) : val b (l.set n d) = val b l + (d - rd l (n : Int)) * pw b n := val_set b d l n h
theorem val_take_succP (b : Int) {l : List Int} {n : Nat} (hn : n < l.length) : val b (l.take (n + 1)) = val b (l.take n) + rd l (n : Int) * pw b n := val_take_succ b hn
theorem val_ltP {b : Int} (hb : 0 < b) {l : List Int} (h : dig b l) : val b l < pw b l.length := val_lt hb h
attribute [irreducible] pw
theorem row_step {b P T c a y r v v' : Int} (hT : T = c + (a * y + r)) (hv : v' = v + (T % b - r) * P) : v' + (T / b) * (P * b) = v + c * P + a * y * P := by
  have h := Int.emod_add_mul_ediv T b
  have e : T % b = T - b * (T / b) := by omega
  rw [hv, e, hT]
  grind
/-- A number: its sign and its digits. -/
def neg (x : Int) : Bool := decide (x < 0)
def mag (b : Nat) (x : Int) : List Int := digs b x.natAbs
theorem mag_dig {b : Nat} (hb : 2 ≤ b) (x : Int) : dig b (mag b x) := dig_digs hb _
theorem val_mag {b : Nat} (hb : 2 ≤ b) (x : Int) : val b (mag b x) = x.natAbs := val_digs hb _
theorem mag_nil {b : Nat} (hb : 2 ≤ b) {x : Int} : mag b x = [] ↔ x = 0 := by
  rw [mag, digs_eq_nil hb]; omega
theorem mag_len_zero {b : Nat} (hb : 2 ≤ b) {x : Int} : (mag b x).length = 0 ↔ x = 0 := by
  rw [List.length_eq_zero_iff, mag_nil hb]
theorem digs_len_mono {b : Nat} (hb : 2 ≤ b) {m n : Nat} (h : m ≤ n) : (digs b m).length ≤ (digs b n).length :=
  digs_len hb _ _ (Nat.lt_of_le_of_lt h (lt_pow_len hb n))
def cmp3 (x y : Int) : Int := if x < y then -1 else if y < x then 1 else 0
theorem cmp3_lt {x y : Int} (h : x < y) : cmp3 x y = -1 := if_pos h
theorem cmp3_gt {x y : Int} (h : y < x) : cmp3 x y = 1 := by rw [cmp3, if_neg (by omega), if_pos h]
theorem cmp3_self (x : Int) : cmp3 x x = 0 := by simp [cmp3]
theorem cmp3_zero {x y : Int} : cmp3 x y = 0 ↔ x = y := by
  unfold cmp3; constructor
  · intro h; split at h
    · omega
    · split at h <;> omega
  · rintro rfl; simp
theorem cmp3_add (x y z : Int) : cmp3 (x + z) (y + z) = cmp3 x y := by
  unfold cmp3
  by_cases h : x < y
  · rw [if_pos h, if_pos (by omega)]
  · rw [if_neg h, if_neg (by omega)]
    by_cases h' : y < x
    · rw [if_pos h', if_pos (by omega)]
    · rw [if_neg h', if_neg (by omega)]
theorem cmp3_take {b : Int} (hb : 0 < b) {l m : List Int} (hl : dig b l) (hm : dig b m) {n : Nat} (h1 : n < l.length) (h2 : n < m.length) :
    cmp3 (val b (l.take (n + 1))) (val b (m.take (n + 1))) = if rd l (n : Int) < rd m (n : Int) then -1 else if rd l (n : Int) > rd m (n : Int) then 1 else cmp3 (val b (l.take n)) (val b (m.take n)) := by
  have v1 := val_ltP hb (dig_take hl n)
  have v2 := val_ltP hb (dig_take hm n)
  rw [List.length_take, Nat.min_eq_left (by omega)] at v1 v2
  have hbn : ∃ b' : Nat, b = b' := ⟨b.toNat, by omega⟩
  obtain ⟨b', rfl⟩ := hbn
  have w1 := val_nonneg (dig_take hl n)
  have w2 := val_nonneg (dig_take hm n)
  have hp : (0 : Int) ≤ pw b' n := pw_nonneg (by omega) n
  rw [val_take_succP _ h1, val_take_succP _ h2]
  generalize rd l (n : Int) = x at *
  generalize rd m (n : Int) = y at *
  generalize val (b' : Int) (l.take n) = v at *
  generalize val (b' : Int) (m.take n) = w at *
  generalize pw (b' : Int) n = p at *
  by_cases c1 : x < y
  · rw [if_pos c1]
    have := Int.mul_le_mul_of_nonneg_right (show x + 1 ≤ y by omega) hp
    rw [Int.add_mul, Int.one_mul] at this
    exact cmp3_lt (by omega)
  · rw [if_neg c1]
    by_cases c2 : x > y
    · rw [if_pos c2]
      have := Int.mul_le_mul_of_nonneg_right (show y + 1 ≤ x by omega) hp
      rw [Int.add_mul, Int.one_mul] at this
      exact cmp3_gt (by omega)
    · rw [if_neg c2]
      obtain rfl : x = y := by omega
      exact cmp3_add _ _ _

/-- How many bits a number has. -/
def blen (n : Nat) : Nat := (digs 2 n).length
theorem blen_pos {n : Nat} (h : 0 < n) : blen n = blen (n / 2) + 1 := by
  unfold blen; rw [digs_pos (by omega) h, List.length_cons]
theorem blen_eq_zero {n : Nat} : blen n = 0 ↔ n = 0 := by
  unfold blen; rw [List.length_eq_zero_iff, digs_eq_nil (by omega)]
theorem blen_shift : ∀ k n, 0 < n / 2 ^ k → blen n = k + blen (n / 2 ^ k)
  | 0, n, h => by simp
  | k + 1, n, h => by
    rw [Nat.pow_succ, Nat.mul_comm, ← Nat.div_div_eq_div_mul] at h ⊢
    have h0 : 0 < n := by
      rcases Nat.eq_zero_or_pos n with rfl | h'
      · simp at h
      · exact h'
    rw [blen_pos h0, blen_shift k _ h]
    omega
theorem lt_blen (n : Nat) : n < 2 ^ blen n := lt_pow_len (by omega) n
theorem blen_le {n m : Nat} (h : n < 2 ^ m) : blen n ≤ m := digs_len (by omega) m n h
theorem blen_gt {n m : Nat} (h : 2 ^ m ≤ n) : m < blen n := pow_len_le (by omega) h
theorem le_blen {n : Nat} (h : 0 < n) : 2 ^ (blen n - 1) ≤ n := by
  rcases Nat.lt_or_ge n (2 ^ (blen n - 1)) with h1 | h1
  · have := blen_le h1
    have : blen n ≠ 0 := fun h2 => by have := blen_eq_zero.1 h2; omega
    omega
  · exact h1
theorem blen_eq {n m : Nat} (h : 2 ^ m ≤ n) (h' : n < 2 ^ (m + 1)) : blen n = m + 1 := by
  have := blen_gt h
  have := blen_le h'
  omega
theorem mag_len_of {b : Nat} (hb : 2 ≤ b) {x : Int} {m : Nat} (h : x.natAbs < 2 ^ m) : (mag b x).length ≤ m :=
  digs_len hb m _ (Nat.lt_of_lt_of_le h (Nat.pow_le_pow_left hb m))
/-- The digit at the top. -/
theorem top_of {b n : Nat} (hb : 2 ≤ b) {l : Nat} (h : (digs b n).length = l + 1) : ∃ t r : Nat, rd (digs b n) (l : Int) = t ∧ 0 < t ∧ t < b ∧ r < b ^ l ∧ n = r + t * b ^ l := by
  have hd := dig_digs hb n
  have h1 := rd_lt hd (show l < (digs b n).length by omega)
  obtain ⟨t, ht⟩ : ∃ t : Nat, rd (digs b n) (l : Int) = t := ⟨(rd (digs b n) (l : Int)).toNat, by omega⟩
  have hv := val_take_succ (b : Int) (show l < (digs b n).length by omega)
  rw [← h, List.take_length, val_digs hb, ht] at hv
  have v1 := val_lt (by omega) (dig_take hd l)
  have v2 := val_nonneg (dig_take hd l)
  rw [List.length_take, Nat.min_eq_left (by omega)] at v1
  obtain ⟨r, hr⟩ : ∃ r : Nat, val b ((digs b n).take l) = r := ⟨(val b ((digs b n).take l)).toNat, by omega⟩
  rw [hr] at hv v1
  have e : n = r + t * b ^ l := by exact_mod_cast hv
  have er : r < b ^ l := by exact_mod_cast v1
  refine ⟨t, r, ht, ?_, by omega, er, e⟩
  rcases Nat.eq_zero_or_pos t with h0 | h0
  · rw [h0, Nat.zero_mul, Nat.add_zero] at e
    have := digs_len hb l n (by omega)
    omega
  · exact h0
theorem pow_natAbs (x : Int) (n : Nat) : (x ^ n).natAbs = x.natAbs ^ n := Int.natAbs_pow x n
theorem pow_lt_blen (x : Int) (n : Nat) : (x ^ n).natAbs < 2 ^ (blen x.natAbs * n + 1) := by
  rw [pow_natAbs]
  have h1 : x.natAbs ^ n ≤ (2 ^ blen x.natAbs) ^ n := Nat.pow_le_pow_left (Nat.le_of_lt (lt_blen _)) n
  rw [← Nat.pow_mul] at h1
  exact Nat.lt_of_le_of_lt h1 ((Nat.pow_lt_pow_iff_right (by omega)).2 (by omega))
end Go.Proofs.Ytfkjmmpolingbaa.Nums
end

section
namespace Go.Proofs.Ytfkjmmpolingbaa.XA
open Go.RowKit Go.Proofs.YtfkjmmpolingbaaW.PrintWords Go.Proofs.YtfkjmmpolingbaaW.PrintLast Go.Proofs.YtfkjmmpolingbaaW.PrintMore
attribute [local go_sem] max2_int min2_int max_two min_two max_three min_three max_four min_four   -- for this text's walks alone
set_option linter.unusedVariables false
set_option linter.unusedSimpArgs false

/-! ### swageref06_Bezout: function 22 -/
def swageref06_Bezout.l0 : Nat → Int → Int → Int → Int → Option (Int × Int × Int)
  | 0, _, _, _, _ => none
  | k + 1, x5, x6, x206000, x206001 => if x206001 = 0 then (none) else (if (Int.tmod (wrap64 (x5 - (wrap64 (x6 * x206000)))) x206001) = 0 then (some (x5, x6, wrap64 (Int.tdiv (wrap64 (x5 - (wrap64 (x6 * x206000)))) x206001))) else (if (Int.tmod (wrap64 (x5 + (wrap64 (x6 * x206000)))) x206001) = 0 then (some (x5, wrap64 (-x6), wrap64 (Int.tdiv (wrap64 (x5 + (wrap64 (x6 * x206000)))) x206001))) else (swageref06_Bezout.l0 k x5 (wrap64 (x6 + 1)) x206000 x206001)))
def swageref06_Bezout.f (k : Nat) (a0_0 : Int) (a0_1 : Int) : Option (Int × Int × Int) := (swageref06_Common.f k a0_0 a0_1).bind fun t206 => (if t206 = 0 then (some (0, 0, 0)) else (if a0_1 = 0 then (some (t206, wrap64 (Int.tdiv a0_0 t206), 0)) else (swageref06_Bezout.l0 k t206 0 a0_0 a0_1)))

end Go.Proofs.Ytfkjmmpolingbaa.XA
end

section
namespace Go.Proofs.Ytfkjmmpolingbaa.XA
open Go.RowKit Go.Proofs.YtfkjmmpolingbaaW.PrintWords Go.Proofs.YtfkjmmpolingbaaW.PrintLast Go.Proofs.YtfkjmmpolingbaaW.PrintMore
attribute [local go_sem] max2_int min2_int max_two min_two max_three min_three max_four min_four   -- for this text's walks alone
set_option linter.unusedVariables false
set_option linter.unusedSimpArgs false

attribute [local go_sem high] eqA23
/-! ### swageref06_All: function 23 -/
mutual
def swageref06_All.j0 : Nat → Int → Bool → Option ((List (S23)))
  | 0, _, _ => none
  | k + 1, x0, x12 => if x12 = true then (some ([] : List (S23))) else (swageref06_All.l0 k x0 (([(⟨0, 1⟩ : S23), (⟨1, 0⟩ : S23)] : List (S23))) 1)
def swageref06_All.l0 : Nat → Int → List (S23) → Int → Option ((List (S23)))
  | 0, _, _, _ => none
  | k + 1, x0, x3, x4 => if x4 ≤ x0 then (swageref06_All.l1 k x0 x3 x4 0) else (some x3)
def swageref06_All.l1 : Nat → Int → List (S23) → Int → Int → Option ((List (S23)))
  | 0, _, _, _, _ => none
  | k + 1, x0, x3, x4, x5 => if x5 ≤ x4 then (swageref06_All.l2 k x0 x3 x4 x5 1) else (swageref06_All.l0 k x0 x3 (wrap64 (x4 + 1)))
def swageref06_All.l2 : Nat → Int → List (S23) → Int → Int → Int → Option ((List (S23)))
  | 0, _, _, _, _, _ => none
  | k + 1, x0, x3, x4, x5, x6 => if x6 ≤ x4 then (if x6 = x4 then ((swageref06_Norm.f k x6 x5).bind fun bt212 => (if (!(bt212.1 == x6) || (!(bt212.2 == x5))) = true then (swageref06_All.l2 k x0 x3 x4 x5 (wrap64 (x6 + 1))) else (if x5 = 0 then (swageref06_All.l2 k x0 x3 x4 x5 (wrap64 (x6 + 1))) else ((some (([(⟨x6, x5⟩ : S23), (⟨wrap64 (-x6), x5⟩ : S23)] : List (S23)) : List (S23))).bind fun y214 => (if x3.length + y214.length < 8796093022208 then (swageref06_All.l2 k x0 (x3 ++ y214) x4 x5 (wrap64 (x6 + 1))) else (none)))))) else (if x5 = x4 then ((swageref06_Norm.f k x6 x5).bind fun bt220 => (if (!(bt220.1 == x6) || (!(bt220.2 == x5))) = true then (swageref06_All.l2 k x0 x3 x4 x5 (wrap64 (x6 + 1))) else (if x5 = 0 then (swageref06_All.l2 k x0 x3 x4 x5 (wrap64 (x6 + 1))) else ((some (([(⟨x6, x5⟩ : S23), (⟨wrap64 (-x6), x5⟩ : S23)] : List (S23)) : List (S23))).bind fun y222 => (if x3.length + y222.length < 8796093022208 then (swageref06_All.l2 k x0 (x3 ++ y222) x4 x5 (wrap64 (x6 + 1))) else (none)))))) else (swageref06_All.l2 k x0 x3 x4 x5 (wrap64 (x6 + 1))))) else (swageref06_All.l1 k x0 x3 x4 (wrap64 (x5 + 1)))
end
def swageref06_All.f (k : Nat) (a0 : Int) : Option ((List (S23))) := if a0 < 1 then (swageref06_All.j0 k a0 true) else (swageref06_All.j0 k a0 (decide (a0 > 16)))
end Go.Proofs.Ytfkjmmpolingbaa.XA
end

section
/- The program's numbers (limbs of 32 bits): what the printed functions come to. -/
namespace Go.Proofs.Ytfkjmmpolingbaa.IntA
open Go Go.RowKit Go.Proofs.YtfkjmmpolingbaaW.PrintWords Go.Proofs.YtfkjmmpolingbaaW.PrintLast Go.Proofs.Ytfkjmmpolingbaa.XA Go.Proofs.Ytfkjmmpolingbaa.Nums Go.Proofs.Ytfkjmmpolingbaa.Evs
set_option linter.unusedVariables false
set_option linter.unusedSimpArgs false

theorem trim_loop (l : List Int) (hl : l.length ≤ 4611686018427387904) : ∀ n : Nat, n ≤ l.length → Ev (fun k => limb_trim.l0 k l (n : Int)) (strip (l.take n))
  | 0, _ => by
    refine Ev.step (f := fun _ => some (l.take 0)) (fun k => ?_) (by simpa [strip] using Ev.now _)
    simp only [limb_trim.l0]
    rw [if_neg (by omega), if_pos (by omega), if_pos (by omega)]
    rfl
  | n + 1, h => by
    refine Ev.step (f := fun k => if rd l (n : Int) = 0 then limb_trim.l0 k l (n : Int) else some (l.take (n + 1))) (fun k => ?_) ?_
    · simp only [limb_trim.l0]
      have e : wrap64 (((n + 1 : Nat) : Int) - 1) = n := by rw [wrap64_in] <;> omega
      rw [if_pos (by omega), e, if_pos (by omega), if_pos (by omega), if_pos (show (0 : Int) ≤ ((n + 1 : Nat) : Int) by omega), if_pos (show ((n + 1 : Nat) : Int) ≤ (l.length : Int) by omega)]
      rfl
    · rw [take_snoc (show n < l.length by omega), strip_snoc]
      by_cases h0 : rd l (n : Int) = 0
      · rw [if_pos h0]; exact ev_pos h0 (trim_loop l hl n (by omega))
      · rw [if_neg h0]; exact ev_neg h0 (Ev.now _)
theorem ev_trim (l : List Int) (hl : l.length ≤ 4611686018427387904) : Ev (fun k => limb_trim.f k l) (strip l) := by
  have := trim_loop l hl l.length (Nat.le_refl _)
  rw [List.take_length] at this
  exact this
theorem ev_norm (l : List Int) (hl : l.length ≤ 70368744177664) : Ev (fun k => limb_Norm.f k l) (strip l) := by
  unfold limb_Norm.f
  refine Ev.bind (ev_trim l (by omega)) ?_
  have := strip_len l
  exact ev_pos (by omega) (ev_pos (by omega) (Ev.now _))
theorem made_at (s : Bool) (l : List Int) : integer_made.f s l = some (s && decide (l ≠ []), l) := by
  unfold integer_made.f
  cases s
  · rfl
  · cases l <;> simp
theorem ev_make (s : Bool) (l : List Int) (hl : l.length ≤ 70368744177664) : Ev (fun k => integer_Make.f k s l) (s && decide (strip l ≠ []), strip l) := by
  unfold integer_Make.f
  refine Ev.bind (ev_norm l hl) ?_
  simp only [made_at, Option.bind_some]
  exact Ev.now _
theorem two_limbs (n : Nat) (h : n < 18446744073709551616) : strip [(n : Int) % 4294967296, ((n : Int) / 4294967296) % 4294967296] = digs 4294967296 n := by
  refine digs_of (by decide) ?_ ?_
  · exact dig_cons (by omega) (by omega) (dig_cons (by omega) (by omega) (dig_nil _))
  · simp only [val]; omega
theorem ev_of (x : Int) (h : -9223372036854775808 ≤ x) (h' : x ≤ 9223372036854775807) : Ev (fun k => integer_Of.f k x) (neg x, mag 4294967296 x) := by
  unfold integer_Of.f
  by_cases hx : x < 0
  · refine ev_pos hx ?_
    have e : IntKind.u64.wrap (-(IntKind.u64.wrap x)) = (x.natAbs : Int) := by
      simp [IntKind.wrap, IntKind.bits, IntKind.signed]; omega
    rw [e]
    refine Ev.bind (ev_make true _ (by simp)) ?_
    rw [two_limbs _ (by omega)]
    have hne : digs 4294967296 x.natAbs ≠ [] := by
      intro hh
      have := (digs_eq_nil (by decide)).1 hh
      omega
    simp only [neg, hx, hne, decide_true, Bool.true_and, ne_eq, not_false_eq_true, decide_not, decide_false, Bool.not_false, mag]
    exact Ev.now _
  · refine ev_neg hx ?_
    have e : IntKind.u64.wrap x = (x.natAbs : Int) := by
      rw [u64_in] <;> omega
    rw [e]
    refine Ev.bind (ev_make false _ (by simp)) ?_
    rw [two_limbs _ (by omega)]
    simp only [neg, hx, decide_false, Bool.false_and, mag]
    exact Ev.now _

theorem mul_inner (x y : List Int) (hx : dig 4294967296 x) (hy : dig 4294967296 y) (lx : x.length ≤ 1099511627776) (ly : y.length ≤ 1099511627776) (i : Nat) (hi : i < x.length) (R : List Int)
    (next : ∀ acc, dig 4294967296 acc → acc.length = x.length + y.length → (∀ p : Nat, i + 1 + y.length ≤ p → rd acc (p : Int) = 0) → val 4294967296 acc = val 4294967296 (x.take (i + 1)) * val 4294967296 y → Ev (fun k => limb_Mul.l0 k y acc x (x.length : Int) ((i : Int) + 1)) R) (d : Nat) :
    ∀ j acc c, j + d = y.length → dig 4294967296 acc → acc.length = x.length + y.length → (∀ p : Nat, i + y.length ≤ p → rd acc (p : Int) = 0) → 0 ≤ c → c < 4294967296 →
      val 4294967296 acc + c * pw 4294967296 (i + j) = val 4294967296 (x.take i) * val 4294967296 y + rd x (i : Int) * pw 4294967296 i * val 4294967296 (y.take j) →
      Ev (fun k => limb_Mul.l1 k y acc (i : Int) (rd x (i : Int)) c x (x.length : Int) (i : Int) y (y.length : Int) (j : Int)) R := by
  induction d with
  | zero =>
    intro j acc c hj ha hl hz hc hc' hv
    have HV := Aside0.mk hv
    clear hv
    obtain rfl : j = y.length := by omega
    have hw : wrap64 ((i : Int) + (y.length : Int)) = ((i + y.length : Nat) : Int) := by rw [wrap64_in] <;> omega
    refine Ev.step (f := fun k => limb_Mul.l0 k y (acc.set (i + y.length) c) x (x.length : Int) ((i : Int) + 1)) (fun k => ?_) (next _ ?_ ?_ ?_ ?_)
    · simp only [limb_Mul.l1]
      rw [if_neg (by omega), hw, if_pos (by omega), if_pos (by omega), wrap64_in (x := (i : Int) + 1) (by omega) (by omega), Int.toNat_natCast, Int.emod_eq_of_lt hc hc']
    · exact dig_set ha hc hc' _
    · rw [List.length_set, hl]
    · intro p hp
      rw [rd_set_ne c (by omega)]
      exact hz p (by omega)
    · rw [val_setP _ _ (show i + y.length < acc.length by omega), hz _ (Nat.le_refl _), Int.sub_zero, HV.out, List.take_length, val_take_succP _ hi]
      grind
  | succ d ih =>
    intro j acc c hj ha hl hz hc hc' hv
    have HV := Aside0.mk hv
    clear hv
    have hjl : j < y.length := by omega
    have hw : wrap64 ((i : Int) + (j : Int)) = ((i + j : Nat) : Int) := by rw [wrap64_in] <;> omega
    have h1 := rd_lt hx hi
    have h2 := rd_lt hy hjl
    have h3 := rd_lt ha (show i + j < acc.length by omega)
    have h4 : 0 ≤ rd x (i : Int) * rd y (j : Int) := Int.mul_nonneg h1.1 h2.1
    have h5 : rd x (i : Int) * rd y (j : Int) ≤ 4294967295 * 4294967295 := Int.mul_le_mul (by omega) (by omega) h2.1 (by omega)
    have e1 : IntKind.u64.wrap (c + (IntKind.u64.wrap ((IntKind.u64.wrap ((IntKind.u64.wrap (rd x (i : Int))) * (IntKind.u64.wrap (rd y (j : Int))))) + (IntKind.u64.wrap (rd acc ((i + j : Nat) : Int)))))) = c + (rd x (i : Int) * rd y (j : Int) + rd acc ((i + j : Nat) : Int)) := by
      rw [u64_in h1.1 (by omega), u64_in h2.1 (by omega), u64_in h3.1 (by omega), u64_in h4 (by omega), u64_in (x := rd x (i : Int) * rd y (j : Int) + rd acc ((i + j : Nat) : Int)) (by omega) (by omega), u64_in (by omega) (by omega)]
    obtain ⟨T, hT⟩ : ∃ T, T = c + (rd x (i : Int) * rd y (j : Int) + rd acc ((i + j : Nat) : Int)) := ⟨_, rfl⟩
    refine Ev.step (f := fun k => limb_Mul.l1 k y (acc.set (i + j) (T % 4294967296)) (i : Int) (rd x (i : Int)) (T / 4294967296) x (x.length : Int) (i : Int) y (y.length : Int) ((j : Int) + 1)) (fun k => ?_) ?_
    · simp only [limb_Mul.l1]
      rw [if_pos (by omega), if_pos (by omega), if_pos (by omega), hw, if_pos (by omega), if_pos (by omega), e1, ← hT, wrap64_in (x := (j : Int) + 1) (by omega) (by omega), Int.toNat_natCast]
    · have := ih (j + 1) (acc.set (i + j) (T % 4294967296)) (T / 4294967296) (by omega) (dig_set ha (by omega) (by omega) _) (by rw [List.length_set, hl]) ?_ (by omega) (by omega) ?_
      · rw [show ((j + 1 : Nat) : Int) = (j : Int) + 1 by omega] at this
        exact this
      · intro p hp
        rw [rd_set_ne _ (by omega)]
        exact hz p hp
      · have hs := row_step (b := 4294967296) hT (val_setP 4294967296 (T % 4294967296) (show i + j < acc.length by omega))
        rw [show i + (j + 1) = (i + j) + 1 by omega, pw_succ, hs, HV.out, val_take_succP _ hjl, pw_add]
        grind
theorem mul_outer (x y : List Int) (hx : dig 4294967296 x) (hy : dig 4294967296 y) (lx : x.length ≤ 1099511627776) (ly : y.length ≤ 1099511627776) (d : Nat) :
    ∀ i acc, i + d = x.length → dig 4294967296 acc → acc.length = x.length + y.length → (∀ p : Nat, i + y.length ≤ p → rd acc (p : Int) = 0) → val 4294967296 acc = val 4294967296 (x.take i) * val 4294967296 y →
      ∃ acc', dig 4294967296 acc' ∧ val 4294967296 acc' = val 4294967296 x * val 4294967296 y ∧ Ev (fun k => limb_Mul.l0 k y acc x (x.length : Int) (i : Int)) (strip acc') := by
  induction d with
  | zero =>
    intro i acc hi ha hl hz hv
    obtain rfl : i = x.length := by omega
    rw [List.take_length] at hv
    refine ⟨acc, ha, hv, Ev.step (f := fun k => (limb_trim.f k acc).bind fun t => some t) (fun k => ?_) (Ev.bind (ev_trim acc (by omega)) (Ev.now _))⟩
    simp only [limb_Mul.l0]
    rw [if_neg (by omega)]
  | succ d ih =>
    intro i acc hi ha hl hz hv
    have hil : i < x.length := by omega
    -- the row's end, whatever it is: the list is fixed by its value
    have key : ∀ acc2, dig 4294967296 acc2 → acc2.length = x.length + y.length → (∀ p : Nat, i + 1 + y.length ≤ p → rd acc2 (p : Int) = 0) → val 4294967296 acc2 = val 4294967296 (x.take (i + 1)) * val 4294967296 y → Ev (fun k => limb_Mul.l0 k y acc2 x (x.length : Int) ((i : Int) + 1)) (digs 4294967296 (val 4294967296 x * val 4294967296 y).toNat) := by
      intro acc2 h1 h2 h3 h4
      obtain ⟨acc', g1, g2, g3⟩ := ih (i + 1) acc2 (by omega) h1 h2 h3 h4
      rw [show ((i + 1 : Nat) : Int) = (i : Int) + 1 by omega] at g3
      have e := strip_digs (b := 4294967296) (by decide) g1
      rw [← g2]
      exact e ▸ g3
    have hrow := mul_inner x y hx hy lx ly i hil _ key y.length 0 acc 0 (by omega) ha hl hz (by omega) (by omega) (by
      rw [hv, List.take_zero]; simp [val])
    have hx0 := val_nonneg hx
    have hy0 := val_nonneg hy
    have hp : 0 ≤ val 4294967296 x * val 4294967296 y := Int.mul_nonneg hx0 hy0
    refine ⟨digs 4294967296 (val 4294967296 x * val 4294967296 y).toNat, dig_digs (by decide) _, ?_, ?_⟩
    · have := val_digs (b := 4294967296) (by decide) (val 4294967296 x * val 4294967296 y).toNat
      rw [Int.toNat_of_nonneg hp] at this
      exact this
    · rw [strip_of_digs (by decide)]
      refine Ev.step (f := fun k => limb_Mul.l1 k y acc (i : Int) (rd x (i : Int)) 0 x (x.length : Int) (i : Int) y (y.length : Int) ((0 : Nat) : Int)) (fun k => ?_) hrow
      simp only [limb_Mul.l0]
      rw [if_pos (by omega), if_pos (by omega), if_pos (by omega)]
      rfl
theorem ev_limbMul (m n : Nat) (hm : (digs 4294967296 m).length ≤ 1099511627776) (hn : (digs 4294967296 n).length ≤ 1099511627776) : Ev (fun k => limb_Mul.f k (digs 4294967296 m) (digs 4294967296 n)) (digs 4294967296 (m * n)) := by
  have hw : wrap64 (((digs 4294967296 m).length : Int) + ((digs 4294967296 n).length : Int)) = (((digs 4294967296 m).length + (digs 4294967296 n).length : Nat) : Int) := by rw [wrap64_in] <;> omega
  unfold limb_Mul.f
  rw [hw, Int.toNat_natCast]
  refine ev_pos (by omega) (ev_pos (by omega) ?_)
  obtain ⟨acc', g1, g2, g3⟩ := mul_outer _ _ (dig_digs (b := 4294967296) (by decide) m) (dig_digs (b := 4294967296) (by decide) n) hm hn (digs 4294967296 m).length 0 (List.replicate ((digs 4294967296 m).length + (digs 4294967296 n).length) 0) (by omega) (dig_replicate (by decide) _) (by simp) (fun p _ => rd_replicate _ _) (by rw [val_replicate]; simp [val])
  have e1 := val_digs (b := 4294967296) (by decide) m
  have e2 := val_digs (b := 4294967296) (by decide) n
  have e3 : val 4294967296 acc' = ((m * n : Nat) : Int) := by
    rw [g2]
    rw [show val (4294967296 : Int) (digs 4294967296 m) = m from e1, show val (4294967296 : Int) (digs 4294967296 n) = n from e2]
    exact (Int.natCast_mul m n).symm
  rw [digs_of (b := 4294967296) (by decide) g1 e3] at g3
  exact g3
theorem neg_mul (x y : Int) : ((neg x != neg y) && decide (mag 4294967296 (x * y) ≠ [])) = neg (x * y) := by
  by_cases h0 : x * y = 0
  · rw [h0]; simp [mag, digs_zero, neg]
  · have hne : mag 4294967296 (x * y) ≠ [] := fun h => h0 ((mag_nil (by decide)).1 h)
    have hx : x ≠ 0 := by rintro rfl; simp at h0
    have hy : y ≠ 0 := by rintro rfl; simp at h0
    simp only [hne, ne_eq, not_false_eq_true, decide_true, Bool.and_true, neg]
    by_cases h1 : x < 0 <;> by_cases h2 : y < 0
    · have : 0 < x * y := Int.mul_pos_of_neg_of_neg h1 h2
      simp [h1, h2]; omega
    · have : x * y < 0 := Int.mul_neg_of_neg_of_pos h1 (by omega)
      simp [h1, h2, this]
    · have : x * y < 0 := Int.mul_neg_of_pos_of_neg (by omega) h2
      simp [h1, h2, this]
    · have : 0 < x * y := Int.mul_pos (by omega) (by omega)
      simp [h1, h2]; omega
theorem ev_mul (x y : Int) (hx : (mag 4294967296 x).length ≤ 1099511627776) (hy : (mag 4294967296 y).length ≤ 1099511627776) : Ev (fun k => integer_Int_Mul.f k (neg x) (mag 4294967296 x) (neg y) (mag 4294967296 y)) (neg (x * y), mag 4294967296 (x * y)) := by
  unfold integer_Int_Mul.f
  refine Ev.bind (ev_limbMul x.natAbs y.natAbs hx hy) ?_
  have e : digs 4294967296 (x.natAbs * y.natAbs) = mag 4294967296 (x * y) := by rw [mag, Int.natAbs_mul]
  rw [e]
  simp only [made_at, Option.bind_some, neg_mul]
  exact Ev.now _
end Go.Proofs.Ytfkjmmpolingbaa.IntA
end

section
/- The program's numbers: order, bits, powers. -/
namespace Go.Proofs.Ytfkjmmpolingbaa.IntB
open Go Go.RowKit Go.Proofs.YtfkjmmpolingbaaW.PrintWords Go.Proofs.YtfkjmmpolingbaaW.PrintLast Go.Proofs.Ytfkjmmpolingbaa.XA Go.Proofs.Ytfkjmmpolingbaa.Nums Go.Proofs.Ytfkjmmpolingbaa.Evs Go.Proofs.Ytfkjmmpolingbaa.IntA
set_option linter.unusedVariables false
set_option linter.unusedSimpArgs false

theorem ev_times (x y : Int) (hx : (mag 4294967296 x).length ≤ 1099511627776) (h : -9223372036854775808 ≤ y) (h' : y ≤ 9223372036854775807) : Ev (fun k => integer_Int_Times.f k (neg x) (mag 4294967296 x) y) (neg (x * y), mag 4294967296 (x * y)) := by
  unfold integer_Int_Times.f
  refine Ev.bind (ev_of y h h') (Ev.bind (ev_mul x y hx ?_) (Ev.now _))
  have : (mag 4294967296 y).length ≤ 64 := mag_len_of (by decide) (by omega)
  omega
theorem cmp_loop (l m : List Int) (hl : dig 4294967296 l) (hm : dig 4294967296 m) (hs : l.length ≤ 4611686018427387904) (he : l.length = m.length) : ∀ n : Nat, n ≤ l.length → Ev (fun k => limb_Cmp.l0 k l m ((n : Int) - 1)) (cmp3 (val 4294967296 (l.take n)) (val 4294967296 (m.take n)))
  | 0, _ => by
    refine Ev.step (f := fun _ => some 0) (fun k => ?_) (by simpa [val, cmp3] using Ev.now _)
    simp only [limb_Cmp.l0]
    rw [if_neg (by omega)]
  | n + 1, h => by
    rw [cmp3_take (by omega) hl hm (show n < l.length by omega) (show n < m.length by omega)]
    refine Ev.step (f := fun k => if rd l (n : Int) < rd m (n : Int) then some (-1) else if rd l (n : Int) > rd m (n : Int) then some 1 else limb_Cmp.l0 k l m ((n : Int) - 1)) (fun k => ?_) ?_
    · simp only [limb_Cmp.l0]
      have e : ((n + 1 : Nat) : Int) - 1 = n := by omega
      rw [e, if_pos (by omega), if_pos (by omega), if_pos (by omega), if_pos (by omega), wrap64_in (by omega) (by omega)]
    · by_cases c1 : rd l (n : Int) < rd m (n : Int)
      · rw [if_pos c1]; exact ev_pos c1 (Ev.now _)
      · rw [if_neg c1]
        refine ev_neg c1 ?_
        by_cases c2 : rd l (n : Int) > rd m (n : Int)
        · rw [if_pos c2]; exact ev_pos c2 (Ev.now _)
        · rw [if_neg c2]; exact ev_neg c2 (cmp_loop l m hl hm hs he n (by omega))
theorem ev_limbCmp (m n : Nat) (hm : (digs 4294967296 m).length ≤ 1099511627776) (hn : (digs 4294967296 n).length ≤ 1099511627776) : Ev (fun k => limb_Cmp.f k (digs 4294967296 m) (digs 4294967296 n)) (cmp3 m n) := by
  unfold limb_Cmp.f
  have t1 := ev_trim (digs 4294967296 m) (by omega)
  have t2 := ev_trim (digs 4294967296 n) (by omega)
  rw [strip_of_digs (by decide)] at t1 t2
  refine Ev.bind t1 (Ev.bind t2 ?_)
  by_cases c1 : ((digs 4294967296 m).length : Int) < (digs 4294967296 n).length
  · refine ev_pos c1 ?_
    have : m < n := by
      rcases Nat.lt_or_ge m n with h | h
      · exact h
      · have := digs_len_mono (b := 4294967296) (by decide) h
        omega
    rw [cmp3_lt (by omega)]
    exact Ev.now _
  · refine ev_neg c1 ?_
    by_cases c2 : ((digs 4294967296 m).length : Int) > (digs 4294967296 n).length
    · refine ev_pos c2 ?_
      have : n < m := by
        rcases Nat.lt_or_ge n m with h | h
        · exact h
        · have := digs_len_mono (b := 4294967296) (by decide) h
          omega
      rw [cmp3_gt (by omega)]
      exact Ev.now _
    · refine ev_neg c2 ?_
      have e : (digs 4294967296 m).length = (digs 4294967296 n).length := by omega
      have := cmp_loop _ _ (dig_digs (b := 4294967296) (by decide) m) (dig_digs (b := 4294967296) (by decide) n) (by omega) e (digs 4294967296 m).length (Nat.le_refl _)
      rw [List.take_length] at this
      rw [e, List.take_length] at this
      rw [show val (4294967296 : Int) (digs 4294967296 m) = m from val_digs (b := 4294967296) (by decide) m, show val (4294967296 : Int) (digs 4294967296 n) = n from val_digs (b := 4294967296) (by decide) n] at this
      rw [e, wrap64_in (by omega) (by omega)]
      exact this
theorem ev_cmp (x y : Int) (hx : (mag 4294967296 x).length ≤ 1099511627776) (hy : (mag 4294967296 y).length ≤ 1099511627776) : Ev (fun k => integer_Int_Cmp.f k (neg x) (mag 4294967296 x) (neg y) (mag 4294967296 y)) (cmp3 x y) := by
  have st : ∀ (u : Bool), Ev (fun k => integer_Int_Cmp.j0 k u (neg x) (mag 4294967296 x) (neg y) (mag 4294967296 y)) (if u = true then cmp3 y.natAbs x.natAbs else if neg x = true then -1 else if neg y = true then 1 else cmp3 x.natAbs y.natAbs) := by
    intro u
    refine Ev.step (f := fun k => if u = true then ((limb_Cmp.f k (mag 4294967296 y) (mag 4294967296 x)).bind fun t493 => (some t493)) else (if neg x = true then (some (-1)) else (if neg y = true then (some 1) else ((limb_Cmp.f k (mag 4294967296 x) (mag 4294967296 y)).bind fun t494 => (some t494))))) (fun k => by simp only [integer_Int_Cmp.j0]) ?_
    by_cases h1 : u = true
    · rw [if_pos h1]; exact ev_pos h1 (Ev.bind (ev_limbCmp _ _ hy hx) (Ev.now _))
    · rw [if_neg h1]; refine ev_neg h1 ?_
      by_cases h2 : neg x = true
      · rw [if_pos h2]; exact ev_pos h2 (Ev.now _)
      · rw [if_neg h2]; refine ev_neg h2 ?_
        by_cases h3 : neg y = true
        · rw [if_pos h3]; exact ev_pos h3 (Ev.now _)
        · rw [if_neg h3]; exact ev_neg h3 (Ev.bind (ev_limbCmp _ _ hx hy) (Ev.now _))
  unfold integer_Int_Cmp.f
  by_cases h1 : neg x = true
  · refine ev_pos h1 ?_
    have := st (neg y)
    have e : (if neg y = true then cmp3 y.natAbs x.natAbs else if neg x = true then -1 else if neg y = true then 1 else cmp3 x.natAbs y.natAbs) = cmp3 x y := by
      simp only [neg, decide_eq_true_eq] at h1 ⊢
      by_cases h2 : y < 0
      · rw [if_pos h2]; unfold cmp3; split <;> split <;> first | omega | (split <;> first | omega | (split <;> omega))
      · rw [if_neg h2, if_pos h1, cmp3_lt (by omega)]
    rw [e] at this
    exact this
  · refine ev_neg h1 ?_
    have := st false
    have e : (if false = true then cmp3 y.natAbs x.natAbs else if neg x = true then -1 else if neg y = true then 1 else cmp3 x.natAbs y.natAbs) = cmp3 x y := by
      simp only [neg, decide_eq_true_eq, Bool.false_eq_true, if_false] at h1 ⊢
      rw [if_neg h1]
      by_cases h2 : y < 0
      · rw [if_pos h2, cmp3_gt (by omega)]
      · rw [if_neg h2, show (x.natAbs : Int) = x by omega, show (y.natAbs : Int) = y by omega]
    rw [e] at this
    exact this
def sgn (x : Int) : Int := if x = 0 then 0 else if x < 0 then -1 else 1
theorem sign_at (x : Int) : integer_Int_Sign.f (neg x) (mag 4294967296 x) = some (sgn x) := by
  unfold integer_Int_Sign.f sgn
  have := mag_len_zero (b := 4294967296) (by decide) (x := x)
  by_cases h : x = 0
  · rw [if_pos (by have := this.2 h; omega), if_pos h]
  · rw [if_neg (by have := fun h' => h (this.1 h'); omega), if_neg h]
    by_cases h2 : x < 0
    · rw [if_pos (by simp [neg, h2]), if_pos h2]
    · rw [if_neg (by simp [neg, h2]), if_neg h2]

theorem len32_form : ∃ T : ByteArray, ∀ a0 : Int, bits_Len32.f a0 = (if a0 ≥ 65536 then (if (a0 / 65536) ≥ 256 then (if 0 ≤ (((a0 / 65536) / 256) % 256) then (if (((a0 / 65536) / 256) % 256) < 256 then (some (wrap64 ((16 + 8) + (wrap64 (bt T (((a0 / 65536) / 256) % 256)))))) else (none)) else (none)) else (if 0 ≤ ((a0 / 65536) % 256) then (if ((a0 / 65536) % 256) < 256 then (some (wrap64 (16 + (wrap64 (bt T ((a0 / 65536) % 256)))))) else (none)) else (none))) else (if a0 ≥ 256 then (if 0 ≤ ((a0 / 256) % 256) then (if ((a0 / 256) % 256) < 256 then (some (wrap64 ((0 + 8) + (wrap64 (bt T ((a0 / 256) % 256)))))) else (none)) else (none)) else (if 0 ≤ ((a0) % 256) then (if ((a0) % 256) < 256 then (some (wrap64 (0 + (wrap64 (bt T ((a0) % 256)))))) else (none)) else (none)))) := ⟨_, fun _ => rfl⟩
theorem len32_small : ((List.range 256).all fun i => bits_Len32.f (i : Int) == some (blen i : Int)) = true := by decide +kernel
theorem len32_at (n : Nat) (h : n < 4294967296) : bits_Len32.f (n : Int) = some (blen n : Int) := by
  obtain ⟨T, hT⟩ := len32_form
  have sm : ∀ i : Nat, i < 256 → bits_Len32.f (i : Int) = some (blen i : Int) := fun i hi => eq_of_beq (List.all_eq_true.1 len32_small i (by simpa using hi))
  have tab : ∀ i : Nat, i < 256 → wrap64 (bt T (i : Int)) = (blen i : Int) := by
    intro i hi
    have h1 := sm i hi
    rw [hT, if_neg (by omega), if_neg (by omega), if_pos (by omega), if_pos (by omega), Int.emod_eq_of_lt (by omega) (by omega), Int.zero_add] at h1
    have h2 := Option.some.inj h1
    have : ∀ x, wrap64 (wrap64 x) = wrap64 x := by intro x; unfold wrap64; omega
    rwa [this] at h2
  have bb : ∀ i : Nat, i < 256 → blen i ≤ 8 := fun i hi => blen_le (by simpa using hi)
  by_cases h1 : n < 256
  · exact sm n h1
  · rw [hT]
    by_cases h2 : n < 65536
    · rw [if_neg (by omega), if_pos (by omega), if_pos (by omega), if_pos (by omega), show ((n : Int) / 256) % 256 = ((n / 256 : Nat) : Int) by omega, tab _ (by omega), blen_shift 8 n (by omega)]
      have := bb (n / 256) (by omega)
      rw [wrap64_in (by omega) (by omega)]
      simp
    · by_cases h3 : n < 16777216
      · rw [if_pos (by omega), if_neg (by omega), if_pos (by omega), if_pos (by omega), show ((n : Int) / 65536) % 256 = ((n / 65536 : Nat) : Int) by omega, tab _ (by omega), blen_shift 16 n (by omega)]
        have := bb (n / 65536) (by omega)
        rw [wrap64_in (by omega) (by omega)]
        simp
      · rw [if_pos (by omega), if_pos (by omega), if_pos (by omega), if_pos (by omega), show (((n : Int) / 65536) / 256) % 256 = ((n / 16777216 : Nat) : Int) by omega, tab _ (by omega), blen_shift 24 n (by omega)]
        have := bb (n / 16777216) (by omega)
        rw [wrap64_in (by omega) (by omega)]
        simp
theorem blen_top {n t r l : Nat} (ht : 0 < t) (hr : r < 4294967296 ^ l) (hn : n = r + t * 4294967296 ^ l) : blen n = 32 * l + blen t := by
  have e : (4294967296 : Nat) ^ l = 2 ^ (32 * l) := by rw [Nat.pow_mul]
  rw [e] at hr hn
  have h1 := le_blen ht
  have h2 := lt_blen t
  have h0 : blen t ≠ 0 := fun h => by have := blen_eq_zero.1 h; omega
  have a1 : 2 ^ (blen t - 1) * 2 ^ (32 * l) ≤ t * 2 ^ (32 * l) := Nat.mul_le_mul_right _ h1
  have a2 : (t + 1) * 2 ^ (32 * l) ≤ 2 ^ blen t * 2 ^ (32 * l) := Nat.mul_le_mul_right _ h2
  rw [← Nat.pow_add] at a1 a2
  rw [Nat.add_mul, Nat.one_mul] at a2
  have := blen_eq (n := n) (m := blen t - 1 + 32 * l) (by omega) (by rw [show blen t - 1 + 32 * l + 1 = blen t + 32 * l by omega]; omega)
  omega
theorem ev_bits (x : Int) (hx : (mag 4294967296 x).length ≤ 1099511627776) : Ev (fun k => integer_Int_Bits.f k (neg x) (mag 4294967296 x)) (blen x.natAbs : Int) := by
  unfold integer_Int_Bits.f limb_Bits.f
  have t1 := ev_trim (mag 4294967296 x) (by omega)
  have t2 : strip (mag 4294967296 x) = mag 4294967296 x := strip_of_digs (b := 4294967296) (by decide) _
  rw [t2] at t1
  refine Ev.bind (Ev.bind t1 ?_) (Ev.now _)
  by_cases h0 : x = 0
  · have e := (mag_len_zero (b := 4294967296) (by decide) (x := x)).2 h0
    subst h0
    exact ev_pos (by omega) (Ev.now _)
  · have e : ¬ (mag 4294967296 x).length = 0 := fun h' => h0 ((mag_len_zero (b := 4294967296) (by decide) (x := x)).1 h')
    obtain ⟨l, hl⟩ : ∃ l, (mag 4294967296 x).length = l + 1 := ⟨(mag 4294967296 x).length - 1, by omega⟩
    obtain ⟨t, r, h1, h2, h3, h4, h5⟩ := top_of (b := 4294967296) (by decide) hl
    have ew : wrap64 (((mag 4294967296 x).length : Int) - 1) = (l : Int) := by rw [wrap64_in] <;> omega
    refine ev_neg (by omega) ?_
    rw [ew]
    refine ev_pos (by omega) (ev_pos (by omega) ?_)
    have h1' : rd (mag 4294967296 x) (l : Int) = (t : Int) := h1
    rw [h1', len32_at t h3]
    have hb := blen_top h2 h4 h5
    have ht : blen t ≤ 32 := blen_le (by omega)
    refine Ev.congr (f := fun _ => some (blen x.natAbs : Int)) (fun k => ?_) (Ev.now _)
    rw [Option.bind_some, wrap64_in (x := 32 * (l : Int)) (by omega) (by omega), wrap64_in (by omega) (by omega), hb]
    simp
theorem pow_loop (x : Int) (e : Nat) (he : blen x.natAbs * e ≤ 65536) (hx : (mag 4294967296 x).length ≤ 1099511627776) (he2 : e ≤ 65536) : ∀ n i : Nat, n + i = e → Ev (fun k => integer_Int_Pow.l0 k (n : Int) (neg x) (mag 4294967296 x) (neg (x ^ i)) (mag 4294967296 (x ^ i))) (neg (x ^ e), mag 4294967296 (x ^ e), 0)
  | 0, i, h => by
    obtain rfl : i = e := by omega
    refine Ev.step (f := fun _ => some (neg (x ^ i), mag 4294967296 (x ^ i), 0)) (fun k => ?_) (Ev.now _)
    simp only [integer_Int_Pow.l0]
    rw [if_neg (by omega)]
  | n + 1, i, h => by
    refine Ev.step (f := fun k => (integer_Int_Mul.f k (neg (x ^ i)) (mag 4294967296 (x ^ i)) (neg x) (mag 4294967296 x)).bind fun bt477 => integer_Int_Pow.l0 k (n : Int) (neg x) (mag 4294967296 x) bt477.1 bt477.2) (fun k => ?_) ?_
    · simp only [integer_Int_Pow.l0]
      rw [if_pos (by omega), show wrap64 (((n + 1 : Nat) : Int) - 1) = (n : Int) by rw [wrap64_in] <;> omega]
    · have hle : blen x.natAbs * i ≤ blen x.natAbs * e := Nat.mul_le_mul_left _ (by omega)
      have hlen := mag_len_of (b := 4294967296) (by decide) (pow_lt_blen x i)
      refine Ev.bind (ev_mul (x ^ i) x (by omega) hx) ?_
      have := pow_loop x e he hx he2 n (i + 1) (by omega)
      rw [Int.pow_succ] at this
      exact this
theorem ev_pow (x : Int) (e : Nat) (hx : (mag 4294967296 x).length ≤ 1099511627776) (he2 : e ≤ 65536) (he : blen x.natAbs * e ≤ 65536) : Ev (fun k => integer_Int_Pow.f k (neg x) (mag 4294967296 x) (e : Int)) (neg (x ^ e), mag 4294967296 (x ^ e), 0) := by
  have st1 : ∀ u : Bool, (u = true → x.natAbs ≤ 1) → Ev (fun k => integer_Int_Pow.j1 k (e : Int) u (neg x) (mag 4294967296 x) (neg 1) (mag 4294967296 1)) (neg (x ^ e), mag 4294967296 (x ^ e), 0) := by
    intro u hu
    by_cases h1 : u = true
    · have hs := hu h1
      refine Ev.step (f := fun _ => some (neg (x ^ e), mag 4294967296 (x ^ e), 0)) (fun k => ?_) (Ev.now _)
      simp only [integer_Int_Pow.j1]
      rw [if_pos h1]
      by_cases h2 : e = 0
      · subst h2; rw [if_pos (by rfl), Int.pow_zero]
      · rw [if_neg (by omega)]
        by_cases h3 : x < 0
        · obtain rfl : x = -1 := by omega
          rw [if_pos (by decide)]
          by_cases h4 : e % 2 = 0
          · rw [if_pos (by rw [tmod_pos (by omega)]; omega)]
            obtain ⟨m, rfl⟩ : ∃ m, e = 2 * m := ⟨e / 2, by omega⟩
            rw [Int.pow_mul, show ((-1 : Int) ^ 2) = 1 by decide, Int.one_pow]
          · rw [if_neg (by rw [tmod_pos (by omega)]; omega)]
            obtain ⟨m, rfl⟩ : ∃ m, e = 2 * m + 1 := ⟨e / 2, by omega⟩
            rw [Int.pow_succ, Int.pow_mul, show ((-1 : Int) ^ 2) = 1 by decide, Int.one_pow, Int.one_mul]
        · rw [if_neg (by simp [neg, h3])]
          have h5 : x = 0 ∨ x = 1 := by omega
          rcases h5 with rfl | rfl
          · rw [Int.zero_pow h2]
          · rw [Int.one_pow]
    · refine Ev.step (f := fun k => integer_Int_Pow.l0 k (e : Int) (neg x) (mag 4294967296 x) (neg 1) (mag 4294967296 1)) (fun k => ?_) ?_
      · simp only [integer_Int_Pow.j1]
        rw [if_neg h1]
      · have := pow_loop x e he hx he2 e 0 (by omega)
        rw [Int.pow_zero] at this
        exact this
  have st0 : Ev (fun k => integer_Int_Pow.j0 k (e : Int) (neg x) (mag 4294967296 x)) (neg (x ^ e), mag 4294967296 (x ^ e), 0) := by
    refine Ev.step (f := fun k => (integer_Of.f k 1).bind fun bt470 => if sgn x = 0 then integer_Int_Pow.j1 k (e : Int) true (neg x) (mag 4294967296 x) bt470.1 bt470.2 else (integer_Int_Bits.f k (neg x) (mag 4294967296 x)).bind fun t476 => integer_Int_Pow.j1 k (e : Int) (t476 == 1) (neg x) (mag 4294967296 x) bt470.1 bt470.2) (fun k => ?_) ?_
    · simp only [integer_Int_Pow.j0, sign_at, Option.bind_some]
    · refine Ev.bind (ev_of 1 (by omega) (by omega)) ?_
      by_cases h : x = 0
      · refine ev_pos (by simp [sgn, h]) (st1 true (by omega))
      · refine ev_neg (by unfold sgn; rw [if_neg h]; split <;> omega) (Ev.bind (ev_bits x hx) (st1 _ ?_))
        intro h1
        have h2 : blen x.natAbs = 1 := by
          have := eq_of_beq h1
          omega
        have := lt_blen x.natAbs
        rw [h2] at this
        omega
  unfold integer_Int_Pow.f
  refine ev_neg (by omega) (Ev.bind (ev_bits x hx) ?_)
  by_cases h : (blen x.natAbs : Int) > 0
  · refine ev_pos h (Ev.bind (ev_bits x hx) (ev_neg (by omega) (ev_neg ?_ st0)))
    rw [tdiv_pos (by omega)]
    have hq : (e : Int) ≤ 65536 / (blen x.natAbs : Int) := by
      rw [Int.le_ediv_iff_mul_le h]
      rw [Nat.mul_comm] at he
      rw [← Int.natCast_mul]
      omega
    have hq2 : 65536 / (blen x.natAbs : Int) ≤ 65536 := Int.ediv_le_self _ (by omega)
    rw [wrap64_in (by omega) (by omega)]
    omega
  · exact ev_neg h st0
end Go.Proofs.Ytfkjmmpolingbaa.IntB
end

section
/- The reference's numbers (digits of 16 bits): what the printed functions come to. -/
namespace Go.Proofs.Ytfkjmmpolingbaa.RefA
open Go Go.RowKit Go.Proofs.YtfkjmmpolingbaaW.PrintWords Go.Proofs.YtfkjmmpolingbaaW.PrintLast Go.Proofs.Ytfkjmmpolingbaa.XA Go.Proofs.Ytfkjmmpolingbaa.Nums Go.Proofs.Ytfkjmmpolingbaa.Evs
set_option linter.unusedVariables false
set_option linter.unusedSimpArgs false

theorem norm_loop (s : Bool) (l : List Int) (hl : l.length ≤ 4611686018427387904) : ∀ n : Nat, n ≤ l.length → Ev (fun k => swageref02_norm.l0 k s l (n : Int)) (s && decide (strip (l.take n) ≠ []), strip (l.take n))
  | 0, _ => by
    refine Ev.step (f := fun _ => some (false, [])) (fun k => ?_) (by simpa [strip] using Ev.now _)
    simp only [swageref02_norm.l0]
    rw [if_neg (by omega)]
    cases s <;> simp
  | n + 1, h => by
    refine Ev.step (f := fun k => if rd l (n : Int) = 0 then swageref02_norm.l0 k s l (n : Int) else some (s, l.take (n + 1))) (fun k => ?_) ?_
    · simp only [swageref02_norm.l0]
      have e : wrap64 (((n + 1 : Nat) : Int) - 1) = n := by rw [wrap64_in] <;> omega
      rw [if_pos (by omega), e, if_pos (by omega), if_pos (by omega)]
      cases s
      · simp only [Bool.false_eq_true, if_false]
        rw [if_pos (show (0 : Int) ≤ ((n + 1 : Nat) : Int) by omega), if_pos (show ((n + 1 : Nat) : Int) ≤ (l.length : Int) by omega)]
        rfl
      · simp only [if_true]
        rw [if_pos (show (0 : Int) ≤ ((n + 1 : Nat) : Int) by omega), if_pos (show ((n + 1 : Nat) : Int) ≤ (l.length : Int) by omega)]
        rfl
    · rw [take_snoc (show n < l.length by omega), strip_snoc]
      by_cases h0 : rd l (n : Int) = 0
      · rw [if_pos h0]; exact ev_pos h0 (norm_loop s l hl n (by omega))
      · rw [if_neg h0]
        refine ev_neg h0 ?_
        simp only [ne_eq, List.append_eq_nil_iff, List.cons_ne_self, and_false, not_false_eq_true, decide_true, Bool.and_true, reduceCtorEq]
        exact Ev.now _
theorem ev_norm (s : Bool) (l : List Int) (hl : l.length ≤ 4611686018427387904) : Ev (fun k => swageref02_norm.f k s l) (s && decide (strip l ≠ []), strip l) := by
  have := norm_loop s l hl l.length (Nat.le_refl _)
  rw [List.take_length] at this
  exact this

theorem mul_inner (s t : Bool) (x y : List Int) (hx : dig 65536 x) (hy : dig 65536 y) (lx : x.length ≤ 1099511627776) (ly : y.length ≤ 1099511627776) (i : Nat) (hi : i < x.length) (R : Bool × List Int)
    (next : ∀ acc, dig 65536 acc → acc.length = x.length + y.length + 1 → (∀ p : Nat, i + 1 + y.length ≤ p → rd acc (p : Int) = 0) → val 65536 acc = val 65536 (x.take (i + 1)) * val 65536 y → Ev (fun k => swageref02_Mul.l0 k acc ((i : Int) + 1) s x t y) R) (d : Nat) :
    ∀ j acc c, j + d = y.length → dig 65536 acc → acc.length = x.length + y.length + 1 → (∀ p : Nat, i + y.length ≤ p → rd acc (p : Int) = 0) → 0 ≤ c → c < 65536 →
      val 65536 acc + c * pw 65536 (i + j) = val 65536 (x.take i) * val 65536 y + rd x (i : Int) * pw 65536 i * val 65536 (y.take j) →
      Ev (fun k => swageref02_Mul.l1 k acc (i : Int) c (j : Int) s x t y) R := by
  induction d with
  | zero =>
    intro j acc c hj ha hl hz hc hc' hv
    have HV := Aside0.mk hv
    clear hv
    obtain rfl : j = y.length := by omega
    have hw : wrap64 ((i : Int) + (y.length : Int)) = ((i + y.length : Nat) : Int) := by rw [wrap64_in] <;> omega
    -- the end of the row: no carry is left
    have last : ∀ (j : Int) acc2, ¬ j < (y.length : Int) → dig 65536 acc2 → acc2.length = x.length + y.length + 1 → (∀ p : Nat, i + 1 + y.length ≤ p → rd acc2 (p : Int) = 0) → val 65536 acc2 = val 65536 (x.take (i + 1)) * val 65536 y → Ev (fun k => swageref02_Mul.l1 k acc2 (i : Int) 0 j s x t y) R := by
      intro j acc2 hj2 g1 g2 g3 g4
      refine Ev.step (f := fun k => swageref02_Mul.j2 k acc2 (i : Int) 0 j false s x t y) (fun k => ?_) (Ev.step (f := fun k => swageref02_Mul.l0 k acc2 ((i : Int) + 1) s x t y) (fun k => ?_) (next acc2 g1 g2 g3 g4))
      · simp only [swageref02_Mul.l1]
        rw [if_neg hj2]
        rfl
      · simp only [swageref02_Mul.j2, Bool.false_eq_true, if_false]
        rw [wrap64_in (by omega) (by omega)]
    by_cases h0 : c = 0
    · subst h0
      refine last _ acc (by omega) ha hl (fun p hp => hz p (by omega)) ?_
      have := HV.out
      rw [Int.zero_mul, Int.add_zero, List.take_length] at this
      rw [this, val_take_succP _ hi]
      grind
    · have e0 : rd acc ((i + y.length : Nat) : Int) = 0 := hz _ (Nat.le_refl _)
      refine Ev.step (f := fun k => swageref02_Mul.j2 k acc (i : Int) c (y.length : Int) true s x t y) (fun k => ?_) (Ev.step (f := fun k => swageref02_Mul.l1 k (acc.set (i + y.length) c) (i : Int) 0 ((y.length : Int) + 1) s x t y) (fun k => ?_) (last _ _ (by omega) (dig_set ha hc hc' _) (by rw [List.length_set, hl]) ?_ ?_))
      · simp only [swageref02_Mul.l1]
        rw [if_neg (by omega), decide_eq_true (show c > 0 by omega)]
      · simp only [swageref02_Mul.j2, if_true]
        rw [hw, if_pos (by omega), if_pos (by omega), if_neg (by omega), e0, u64_in (x := 0) (by omega) (by omega), Int.add_zero, u64_in (x := c) (by omega) (by omega), wrap64_in (x := (y.length : Int) + 1) (by omega) (by omega), Int.toNat_natCast, tmod_pos hc, tdiv_pos hc, Int.emod_eq_of_lt hc hc', Int.emod_eq_of_lt hc (by omega), Int.ediv_eq_zero_of_lt hc hc', u64_in (x := 0) (by omega) (by omega)]
      · intro p hp
        rw [rd_set_ne c (by omega)]
        exact hz p (by omega)
      · rw [val_setP _ _ (show i + y.length < acc.length by omega), e0, Int.sub_zero, HV.out, List.take_length, val_take_succP _ hi]
        grind
  | succ d ih =>
    intro j acc c hj ha hl hz hc hc' hv
    have HV := Aside0.mk hv
    clear hv
    have hjl : j < y.length := by omega
    have hw : wrap64 ((i : Int) + (j : Int)) = ((i + j : Nat) : Int) := by rw [wrap64_in] <;> omega
    have h1 := rd_lt hx hi
    have h2 := rd_lt hy hjl
    have h3 := rd_lt ha (show i + j < acc.length by omega)
    have h4 : 0 ≤ rd x (i : Int) * rd y (j : Int) := Int.mul_nonneg h1.1 h2.1
    have h5 : rd x (i : Int) * rd y (j : Int) ≤ 65535 * 65535 := Int.mul_le_mul (by omega) (by omega) h2.1 (by omega)
    have e1 : IntKind.u64.wrap ((IntKind.u64.wrap (c + (IntKind.u64.wrap (rd acc ((i + j : Nat) : Int))))) + (IntKind.u64.wrap ((IntKind.u64.wrap (rd x (i : Int))) * (IntKind.u64.wrap (rd y (j : Int)))))) = c + (rd x (i : Int) * rd y (j : Int) + rd acc ((i + j : Nat) : Int)) := by
      rw [u64_in h1.1 (by omega), u64_in h2.1 (by omega), u64_in h3.1 (by omega), u64_in h4 (by omega), u64_in (x := c + rd acc ((i + j : Nat) : Int)) (by omega) (by omega), u64_in (by omega) (by omega)]
      omega
    obtain ⟨T, hT⟩ : ∃ T, T = c + (rd x (i : Int) * rd y (j : Int) + rd acc ((i + j : Nat) : Int)) := ⟨_, rfl⟩
    refine Ev.step (f := fun k => swageref02_Mul.j2 k acc (i : Int) c (j : Int) true s x t y) (fun k => ?_) (Ev.step (f := fun k => swageref02_Mul.l1 k (acc.set (i + j) (T % 65536)) (i : Int) (T / 65536) ((j : Int) + 1) s x t y) (fun k => ?_) ?_)
    · simp only [swageref02_Mul.l1]
      rw [if_pos (by omega)]
    · simp only [swageref02_Mul.j2, if_true]
      rw [hw, if_pos (by omega), if_pos (by omega), if_pos (by omega), if_pos (by omega), if_pos (by omega), if_pos (by omega), e1, ← hT, wrap64_in (x := (j : Int) + 1) (by omega) (by omega), Int.toNat_natCast, tmod_pos (by omega), tdiv_pos (by omega), u64_in (x := T / 65536) (by omega) (by omega), Int.emod_eq_of_lt (b := 4294967296) (by omega) (by omega)]
    · have := ih (j + 1) (acc.set (i + j) (T % 65536)) (T / 65536) (by omega) (dig_set ha (by omega) (by omega) _) (by rw [List.length_set, hl]) ?_ (by omega) (by omega) ?_
      · rw [show ((j + 1 : Nat) : Int) = (j : Int) + 1 by omega] at this
        exact this
      · intro p hp
        rw [rd_set_ne _ (by omega)]
        exact hz p hp
      · have hs := row_step (b := 65536) hT (val_setP 65536 (T % 65536) (show i + j < acc.length by omega))
        rw [show i + (j + 1) = (i + j) + 1 by omega, pw_succ, hs, HV.out, val_take_succP _ hjl, pw_add]
        grind
theorem mul_outer (s t : Bool) (x y : List Int) (hx : dig 65536 x) (hy : dig 65536 y) (lx : x.length ≤ 1099511627776) (ly : y.length ≤ 1099511627776) (d : Nat) :
    ∀ i acc, i + d = x.length → dig 65536 acc → acc.length = x.length + y.length + 1 → (∀ p : Nat, i + y.length ≤ p → rd acc (p : Int) = 0) → val 65536 acc = val 65536 (x.take i) * val 65536 y →
      Ev (fun k => swageref02_Mul.l0 k acc (i : Int) s x t y) ((s != t) && decide (digs 65536 (val 65536 x * val 65536 y).toNat ≠ []), digs 65536 (val 65536 x * val 65536 y).toNat) := by
  induction d with
  | zero =>
    intro i acc hi ha hl hz hv
    obtain rfl : i = x.length := by omega
    rw [List.take_length] at hv
    have e : digs 65536 (val 65536 acc).toNat = strip acc := strip_digs (b := 65536) (by decide) ha
    refine Ev.step (f := fun k => (swageref02_norm.f k (s != t) acc).bind fun bt358 => (some (bt358.1, bt358.2))) (fun k => ?_) ?_
    · simp only [swageref02_Mul.l0]
      rw [if_neg (by omega)]
    · rw [← hv, e]
      exact Ev.bind (ev_norm (s != t) acc (by clear hv e; omega)) (Ev.now _)
  | succ d ih =>
    intro i acc hi ha hl hz hv
    have HV := Aside0.mk hv
    clear hv
    have hil : i < x.length := by omega
    have hrow := mul_inner s t x y hx hy lx ly i hil _ (fun acc2 h1 h2 h3 h4 => by
      have := ih (i + 1) acc2 (by omega) h1 h2 h3 h4
      rw [show ((i + 1 : Nat) : Int) = (i : Int) + 1 by omega] at this
      exact this) y.length 0 acc 0 (by omega) ha hl hz (by omega) (by omega) (by
      rw [HV.out, List.take_zero]; simp [val])
    refine Ev.step (f := fun k => swageref02_Mul.l1 k acc (i : Int) 0 ((0 : Nat) : Int) s x t y) (fun k => ?_) hrow
    simp only [swageref02_Mul.l0]
    rw [if_pos (by omega)]
    rfl
theorem neg_mul (x y : Int) : ((neg x != neg y) && decide (mag 65536 (x * y) ≠ [])) = neg (x * y) := by
  by_cases h0 : x * y = 0
  · rw [h0]; simp [mag, digs_zero, neg]
  · have hne : mag 65536 (x * y) ≠ [] := fun h => h0 ((mag_nil (by decide)).1 h)
    have hx : x ≠ 0 := by rintro rfl; simp at h0
    have hy : y ≠ 0 := by rintro rfl; simp at h0
    simp only [hne, ne_eq, not_false_eq_true, decide_true, Bool.and_true, neg]
    by_cases h1 : x < 0 <;> by_cases h2 : y < 0
    · have : 0 < x * y := Int.mul_pos_of_neg_of_neg h1 h2
      simp [h1, h2]; omega
    · have : x * y < 0 := Int.mul_neg_of_neg_of_pos h1 (by omega)
      simp [h1, h2, this]
    · have : x * y < 0 := Int.mul_neg_of_pos_of_neg (by omega) h2
      simp [h1, h2, this]
    · have : 0 < x * y := Int.mul_pos (by omega) (by omega)
      simp [h1, h2]; omega
theorem ev_mul (x y : Int) (hx : (mag 65536 x).length ≤ 1099511627776) (hy : (mag 65536 y).length ≤ 1099511627776) : Ev (fun k => swageref02_Mul.f k (neg x) (mag 65536 x) (neg y) (mag 65536 y)) (neg (x * y), mag 65536 (x * y)) := by
  have hw : wrap64 ((wrap64 (((mag 65536 x).length : Int) + ((mag 65536 y).length : Int))) + 1) = (((mag 65536 x).length + (mag 65536 y).length + 1 : Nat) : Int) := by rw [wrap64_in (x := ((mag 65536 x).length : Int) + ((mag 65536 y).length : Int)) (by omega) (by omega), wrap64_in] <;> omega
  unfold swageref02_Mul.f
  rw [hw, Int.toNat_natCast]
  refine ev_pos (by omega) (ev_pos (by omega) ?_)
  have g := mul_outer (neg x) (neg y) _ _ (mag_dig (b := 65536) (by decide) x) (mag_dig (b := 65536) (by decide) y) hx hy (mag 65536 x).length 0 (List.replicate ((mag 65536 x).length + (mag 65536 y).length + 1) 0) (by omega) (dig_replicate (by decide) _) (by simp) (fun p _ => rd_replicate _ _) (by rw [val_replicate]; simp [val])
  have e1 : val 65536 (mag 65536 x) = (x.natAbs : Int) := val_mag (b := 65536) (by decide) x
  have e2 : val 65536 (mag 65536 y) = (y.natAbs : Int) := val_mag (b := 65536) (by decide) y
  rw [e1, e2, ← Int.natCast_mul, Int.toNat_natCast, ← Int.natAbs_mul] at g
  have e3 : ((neg x != neg y) && decide (digs 65536 (x * y).natAbs ≠ [])) = neg (x * y) := neg_mul x y
  rw [e3] at g
  exact g
theorem of_loop (x : Int) (hx : x.natAbs ≤ 9223372036854775808) : ∀ n : Nat, ∀ acc, n ≤ 9223372036854775808 → dig 65536 acc → acc.length + (digs 65536 n).length ≤ 64 → val 65536 acc + pw 65536 acc.length * n = x.natAbs → Ev (fun k => swageref02_Of.l0 k x (n : Int) acc) (neg x, mag 65536 x) := by
  intro n
  refine digs_ind (b := 65536) (by decide) (P := fun n => ∀ acc, n ≤ 9223372036854775808 → dig 65536 acc → acc.length + (digs 65536 n).length ≤ 64 → val 65536 acc + pw 65536 acc.length * n = x.natAbs → Ev (fun k => swageref02_Of.l0 k x (n : Int) acc) (neg x, mag 65536 x)) ?_ ?_ n
  · intro acc _ ha hl hv
    have e : strip acc = mag 65536 x := digs_of (b := 65536) (by decide) ha (by simpa using hv)
    clear hv
    refine Ev.step (f := fun k => (swageref02_norm.f k (decide (x < 0)) acc).bind fun bt371 => (some (bt371.1, bt371.2))) (fun k => ?_) ?_
    · simp only [swageref02_Of.l0]
      rw [if_neg (by omega)]
    · have h1 := ev_norm (decide (x < 0)) acc (by omega)
      rw [e] at h1
      have h2 : (decide (x < 0) && decide (mag 65536 x ≠ [])) = neg x := by
        by_cases h : x < 0
        · have : mag 65536 x ≠ [] := fun h' => by have := (mag_nil (b := 65536) (by decide)).1 h'; omega
          simp [neg, h, this]
        · simp [neg, h]
      rw [h2] at h1
      exact Ev.bind h1 (Ev.now _)
  · intro n hn ih acc hb ha hl hv
    have HV := Aside0.mk hv
    clear hv
    rw [digs_pos (b := 65536) (by decide) hn, List.length_cons] at hl
    refine Ev.step (f := fun k => swageref02_Of.l0 k x ((n / 65536 : Nat) : Int) (acc ++ [((n % 65536 : Nat) : Int)])) (fun k => ?_) (ih _ (by omega) (dig_append ha (dig_cons (by omega) (by omega) (dig_nil _))) (by rw [List.length_append]; simp only [List.length_cons, List.length_nil]; omega) ?_)
    · simp only [swageref02_Of.l0]
      rw [if_pos (by omega), if_pos (by omega), tmod_pos (by omega), tdiv_pos (by omega), u64_in (by omega) (by omega)]
      rw [show ((n : Int) % 65536) % 4294967296 = ((n % 65536 : Nat) : Int) by omega, show (n : Int) / 65536 = ((n / 65536 : Nat) : Int) by omega]
    · rw [val_snoc, ← pw_eq, List.length_append, show [((n % 65536 : Nat) : Int)].length = 1 from rfl, pw_succ, ← HV.out]
      have := Nat.mod_add_div n 65536
      have e : (n : Int) = ((n % 65536 : Nat) : Int) + 65536 * ((n / 65536 : Nat) : Int) := by omega
      rw [show pw 65536 acc.length * (n : Int) = pw 65536 acc.length * (((n % 65536 : Nat) : Int) + 65536 * ((n / 65536 : Nat) : Int)) by rw [← e]]
      grind
theorem ev_of (x : Int) (h : -9223372036854775808 ≤ x) (h' : x ≤ 9223372036854775807) : Ev (fun k => swageref02_Of.f k x) (neg x, mag 65536 x) := by
  have hl : (digs 65536 x.natAbs).length ≤ 64 := mag_len_of (b := 65536) (by decide) (x := x) (by omega)
  have main := of_loop x (by omega) x.natAbs [] (by omega) (dig_nil _) (by simpa using hl) (by rw [show pw 65536 ([] : List Int).length = 1 from pw_zero _]; simp [val])
  unfold swageref02_Of.f
  by_cases hx : x < 0
  · refine ev_pos hx ?_
    have e : IntKind.u64.wrap (-(IntKind.u64.wrap x)) = (x.natAbs : Int) := by
      simp [IntKind.wrap, IntKind.bits, IntKind.signed]; omega
    rw [e]
    exact Ev.step (fun k => rfl) main
  · refine ev_neg hx ?_
    have e : IntKind.u64.wrap x = (x.natAbs : Int) := by
      rw [u64_in] <;> omega
    rw [e]
    exact Ev.step (fun k => rfl) main
theorem pow_loop (x : Int) (e : Nat) (he : blen x.natAbs * e ≤ 1099511627000) (he2 : e ≤ 1099511627776) (hx : (mag 65536 x).length ≤ 1099511627776) : ∀ n i : Nat, n + i = e → Ev (fun k => swageref02_Pow.l0 k (e : Int) (i : Int) (neg x) (mag 65536 x) (neg (x ^ i)) (mag 65536 (x ^ i))) (neg (x ^ e), mag 65536 (x ^ e))
  | 0, i, h => by
    obtain rfl : i = e := by omega
    refine Ev.step (f := fun _ => some (neg (x ^ i), mag 65536 (x ^ i))) (fun k => ?_) (Ev.now _)
    simp only [swageref02_Pow.l0]
    rw [if_neg (by omega)]
  | n + 1, i, h => by
    refine Ev.step (f := fun k => (swageref02_Mul.f k (neg (x ^ i)) (mag 65536 (x ^ i)) (neg x) (mag 65536 x)).bind fun bt382 => swageref02_Pow.l0 k (e : Int) ((i : Int) + 1) (neg x) (mag 65536 x) bt382.1 bt382.2) (fun k => ?_) ?_
    · simp only [swageref02_Pow.l0]
      rw [if_pos (by omega), wrap64_in (by omega) (by omega)]
    · have hle : blen x.natAbs * i ≤ blen x.natAbs * e := Nat.mul_le_mul_left _ (by omega)
      have hlen := mag_len_of (b := 65536) (by decide) (pow_lt_blen x i)
      refine Ev.bind (ev_mul (x ^ i) x (by omega) hx) ?_
      have := pow_loop x e he he2 hx n (i + 1) (by omega)
      rw [Int.pow_succ] at this
      exact this
theorem ev_pow (x : Int) (e : Nat) (hx : (mag 65536 x).length ≤ 1099511627776) (he2 : e ≤ 1099511627776) (he : blen x.natAbs * e ≤ 1099511627000) : Ev (fun k => swageref02_Pow.f k (neg x) (mag 65536 x) (e : Int)) (neg (x ^ e), mag 65536 (x ^ e)) := by
  unfold swageref02_Pow.f
  refine Ev.bind (ev_of 1 (by omega) (by omega)) ?_
  have := pow_loop x e he he2 hx e 0 (by omega)
  rw [Int.pow_zero] at this
  exact this
theorem sign_at (x : Int) : swageref02_Sign.f (neg x) (mag 65536 x) = some (if x = 0 then 0 else if x < 0 then -1 else 1) := by
  unfold swageref02_Sign.f
  have := mag_len_zero (b := 65536) (by decide) (x := x)
  by_cases h : x = 0
  · rw [if_pos (by have := this.2 h; omega), if_pos h]
  · rw [if_neg (by have := fun h' => h (this.1 h'); omega), if_neg h]
    by_cases h2 : x < 0
    · rw [if_pos (by simp [neg, h2]), if_pos h2]
    · rw [if_neg (by simp [neg, h2]), if_neg h2]
theorem size_loop (l m : List Int) (hl : dig 65536 l) (hm : dig 65536 m) (hs : l.length ≤ 4611686018427387904) (he : l.length = m.length) : ∀ n : Nat, n ≤ l.length → Ev (fun k => swageref02_size.l0 k l m ((n : Int) - 1)) (cmp3 (val 65536 (l.take n)) (val 65536 (m.take n)))
  | 0, _ => by
    refine Ev.step (f := fun _ => some 0) (fun k => ?_) (by simpa [val, cmp3] using Ev.now _)
    simp only [swageref02_size.l0]
    rw [if_neg (by omega)]
  | n + 1, h => by
    rw [cmp3_take (by omega) hl hm (show n < l.length by omega) (show n < m.length by omega)]
    refine Ev.step (f := fun k => if rd l (n : Int) < rd m (n : Int) then some (-1) else if rd l (n : Int) > rd m (n : Int) then some 1 else swageref02_size.l0 k l m ((n : Int) - 1)) (fun k => ?_) ?_
    · simp only [swageref02_size.l0]
      have e : ((n + 1 : Nat) : Int) - 1 = n := by omega
      rw [e, if_pos (by omega), if_pos (by omega), if_pos (by omega), if_pos (by omega), wrap64_in (by omega) (by omega)]
    · by_cases c1 : rd l (n : Int) < rd m (n : Int)
      · rw [if_pos c1]; exact ev_pos c1 (Ev.now _)
      · rw [if_neg c1]
        refine ev_neg c1 ?_
        by_cases c2 : rd l (n : Int) > rd m (n : Int)
        · rw [if_pos c2]; exact ev_pos c2 (Ev.now _)
        · rw [if_neg c2]; exact ev_neg c2 (size_loop l m hl hm hs he n (by omega))
theorem ev_size (m n : Nat) (hm : (digs 65536 m).length ≤ 1099511627776) (hn : (digs 65536 n).length ≤ 1099511627776) : Ev (fun k => swageref02_size.f k (digs 65536 m) (digs 65536 n)) (cmp3 m n) := by
  unfold swageref02_size.f
  by_cases c0 : ((digs 65536 m).length : Int) = (digs 65536 n).length
  · refine ev_pos c0 ?_
    have e : (digs 65536 m).length = (digs 65536 n).length := by omega
    have := size_loop _ _ (dig_digs (b := 65536) (by decide) m) (dig_digs (b := 65536) (by decide) n) (by omega) e (digs 65536 m).length (Nat.le_refl _)
    rw [List.take_length] at this
    rw [e, List.take_length] at this
    rw [show val (65536 : Int) (digs 65536 m) = m from val_digs (b := 65536) (by decide) m, show val (65536 : Int) (digs 65536 n) = n from val_digs (b := 65536) (by decide) n] at this
    rw [e, wrap64_in (by omega) (by omega)]
    exact this
  · refine ev_neg c0 ?_
    by_cases c1 : ((digs 65536 m).length : Int) < (digs 65536 n).length
    · refine ev_pos c1 ?_
      have : m < n := by
        rcases Nat.lt_or_ge m n with h | h
        · exact h
        · have := digs_len_mono (b := 65536) (by decide) h
          omega
      rw [cmp3_lt (by omega)]
      exact Ev.now _
    · refine ev_neg c1 ?_
      have : n < m := by
        rcases Nat.lt_or_ge n m with h | h
        · exact h
        · have := digs_len_mono (b := 65536) (by decide) h
          omega
      rw [cmp3_gt (by omega)]
      exact Ev.now _
theorem ev_cmp (x y : Int) (hx : (mag 65536 x).length ≤ 1099511627776) (hy : (mag 65536 y).length ≤ 1099511627776) : Ev (fun k => swageref02_Cmp.f k (neg x) (mag 65536 x) (neg y) (mag 65536 y)) (cmp3 x y) := by
  unfold swageref02_Cmp.f
  simp only [sign_at, Option.bind_some]
  by_cases h1 : (if x = 0 then (0 : Int) else if x < 0 then -1 else 1) = (if y = 0 then 0 else if y < 0 then -1 else 1)
  · refine ev_pos h1 ?_
    by_cases h2 : (if x = 0 then (0 : Int) else if x < 0 then -1 else 1) < 0
    · refine ev_pos h2 (Ev.bind (ev_size _ _ hy hx) ?_)
      have e : cmp3 (y.natAbs : Int) (x.natAbs : Int) = cmp3 x y := by
        have hx' : x < 0 := by split at h2 <;> first | omega | (split at h2 <;> omega)
        have hy' : y < 0 := by rw [h1] at h2; split at h2 <;> first | omega | (split at h2 <;> omega)
        unfold cmp3; split <;> split <;> first | omega | (split <;> first | omega | (split <;> omega))
      rw [e]; exact Ev.now _
    · refine ev_neg h2 (Ev.bind (ev_size _ _ hx hy) ?_)
      have e : cmp3 (x.natAbs : Int) (y.natAbs : Int) = cmp3 x y := by
        have hx' : 0 ≤ x := by
          rcases Int.lt_or_le x 0 with h | h
          · rw [if_neg (by omega), if_pos h] at h2; omega
          · exact h
        have hy' : 0 ≤ y := by
          rw [h1] at h2
          rcases Int.lt_or_le y 0 with h | h
          · rw [if_neg (by omega), if_pos h] at h2; omega
          · exact h
        rw [show (x.natAbs : Int) = x by omega, show (y.natAbs : Int) = y by omega]
      rw [e]; exact Ev.now _
  · refine ev_neg h1 ?_
    have hne : x ≠ y := by rintro rfl; exact h1 rfl
    by_cases h2 : (if x = 0 then (0 : Int) else if x < 0 then -1 else 1) < (if y = 0 then 0 else if y < 0 then -1 else 1)
    · refine ev_pos h2 ?_
      have : x < y := by
        rcases Int.lt_or_le x y with h | h
        · exact h
        · split at h2 <;> split at h2 <;> first | omega | (split at h2 <;> first | omega | (split at h2 <;> omega))
      rw [cmp3_lt this]; exact Ev.now _
    · refine ev_neg h2 ?_
      have : y < x := by
        rcases Int.lt_or_le y x with h | h
        · exact h
        · exfalso
          split at h1 <;> split at h1 <;> split at h2 <;> first | omega | (split at h1 <;> first | omega | (split at h1 <;> first | omega | (split at h2 <;> first | omega | (split at h2 <;> omega))))
      rw [cmp3_gt this]; exact Ev.now _
theorem ev_same (x y : Int) (hx : (mag 65536 x).length ≤ 1099511627776) (hy : (mag 65536 y).length ≤ 1099511627776) : Ev (fun k => swageref02_Same.f k (neg x) (mag 65536 x) (neg y) (mag 65536 y)) (decide (x = y)) := by
  unfold swageref02_Same.f
  refine Ev.bind (ev_cmp x y hx hy) ?_
  have e : (cmp3 x y == 0) = decide (x = y) := by
    by_cases h : x = y
    · rw [decide_eq_true h, cmp3_zero.2 h]; rfl
    · rw [decide_eq_false h]
      exact beq_eq_false_iff_ne.2 fun h' => h (cmp3_zero.1 h')
  rw [e]; exact Ev.now _
theorem make_loop (x : Int) (l : List Int) (hd : dig 4294967296 l) (hl : l.length ≤ 1099511627776) (hv0 : val 4294967296 l = x.natAbs) : ∀ n i acc, n + i = l.length → dig 65536 acc → acc.length = 2 * i → val 65536 acc = val 4294967296 (l.take i) → Ev (fun k => swageref02_Make.l0 k (neg x) l acc (i : Int)) (neg x, mag 65536 x)
  | 0, i, acc, h, ha, hc, hv => by
    obtain rfl : i = l.length := by omega
    rw [List.take_length, hv0] at hv
    have e : strip acc = mag 65536 x := digs_of (b := 65536) (by decide) ha hv
    clear hv hv0
    refine Ev.step (f := fun k => (swageref02_norm.f k (neg x) acc).bind fun bt443 => (some (bt443.1, bt443.2))) (fun k => ?_) ?_
    · simp only [swageref02_Make.l0]
      rw [if_neg (by omega)]
    · have h1 := ev_norm (neg x) acc (by omega)
      rw [e] at h1
      have h2 : (neg x && decide (mag 65536 x ≠ [])) = neg x := by
        by_cases h : x < 0
        · have : mag 65536 x ≠ [] := fun h' => by have := (mag_nil (b := 65536) (by decide)).1 h'; omega
          simp [neg, h, this]
        · simp [neg, h]
      rw [h2] at h1
      exact Ev.bind h1 (Ev.now _)
  | n + 1, i, acc, h, ha, hc, hv => by
    have HV := Aside0.mk hv
    have HV0 := Aside0.mk hv0
    clear hv
    have hil : i < l.length := by omega
    have hr := rd_lt hd hil
    refine Ev.step (f := fun k => swageref02_Make.l0 k (neg x) l (acc ++ [rd l (i : Int) % 65536, rd l (i : Int) / 65536]) ((i : Int) + 1)) (fun k => ?_) ?_
    · simp only [swageref02_Make.l0]
      rw [if_pos (by omega), if_pos (by omega)]
      simp only [Option.bind_some]
      rw [if_pos (by simp only [List.length_cons, List.length_nil]; omega), tmod_pos hr.1, tdiv_pos hr.1, Int.emod_eq_of_lt (a := rd l (i : Int) / 65536) (by omega) (by omega), wrap64_in (by omega) (by omega)]
    · have := make_loop x l hd hl hv0 n (i + 1) (acc ++ [rd l (i : Int) % 65536, rd l (i : Int) / 65536]) (by omega) (dig_append ha (dig_cons (by omega) (by omega) (dig_cons (by omega) (by omega) (dig_nil _)))) (by rw [List.length_append]; simp only [List.length_cons, List.length_nil]; omega) ?_
      · rw [show ((i + 1 : Nat) : Int) = (i : Int) + 1 by omega] at this
        exact this
      · rw [val_append, HV.out, val_take_succ _ hil]
        have e : (65536 : Int) ^ acc.length = 4294967296 ^ i := by rw [hc, Int.pow_mul]; rfl
        rw [e]
        have : val 65536 [rd l (i : Int) % 65536, rd l (i : Int) / 65536] = rd l (i : Int) := by
          simp only [val]; omega
        rw [this, Int.mul_comm]
theorem ev_make (x : Int) (hx : (mag 4294967296 x).length ≤ 1099511627776) : Ev (fun k => swageref02_Make.f k (neg x) (mag 4294967296 x)) (neg x, mag 65536 x) :=
  make_loop x _ (mag_dig (b := 4294967296) (by decide) x) hx (val_mag (b := 4294967296) (by decide) x) (mag 4294967296 x).length 0 [] (by omega) (dig_nil _) rfl (by simp [val])
end Go.Proofs.Ytfkjmmpolingbaa.RefA
end
