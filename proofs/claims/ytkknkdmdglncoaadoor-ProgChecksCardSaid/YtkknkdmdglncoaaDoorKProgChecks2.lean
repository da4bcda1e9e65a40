/- Part 2 of the proof of the law ProgChecks for every input: words, walks and plain laws. No condition. -/
import Derived.DataReads
import Derived.ChangeArms
import Derived.SizedLaws
import Derived.WideShapes
import Derived.ChangeSlices
import Derived.Test.YtkknkdmdglncoaaDoorCards
import Derived.Test.YtkknkdmdglncoaaDoorTie
import Derived.Deep.DeepHandedRow
import Derived.Test.YtkknkdmdglncoaaDoorRows
import Derived.WalkKit
import Derived.ProofKit
import Derived.OpenShut
import Derived.ShutString
import Derived.ChangeOld
import Derived.Below
import Derived.Test.YtkknkdmdglncoaaDoorKProgChecks1
section
namespace Go.Proofs.YtkknkdmdglncoaaDoor.XA
open Go.RowKit Go.Proofs.YtkknkdmdglncoaaDoorW.PrintWords Go.Proofs.YtkknkdmdglncoaaDoorW.PrintLast Go.Proofs.YtkknkdmdglncoaaDoorW.PrintMore
attribute [local go_sem] max2_int min2_int max_two min_two max_three min_three max_four min_four   -- for this text's walks alone
set_option linter.unusedVariables false
set_option linter.unusedSimpArgs false

/-! ### swageref08_Check: function 12 -/
mutual
def swageref08_Check.j0 : Nat → Bool → Int → Int → List (S37) → List Int → Option (Int × Bool)
  | 0, _, _, _, _, _ => none
  | k + 1, x38, x147000, x147001, x147002, x147003 => if x38 = true then (some ((-1), true)) else (swageref08_Check.l0 k 0 x147000 x147001 x147002 x147003)
def swageref08_Check.l0 : Nat → Int → Int → Int → List (S37) → List Int → Option (Int × Bool)
  | 0, _, _, _, _, _ => none
  | k + 1, x4, x147000, x147001, x147002, x147003 => if x4 < (x147003.length : Int) then (if 0 ≤ x4 then (if (rd x147003 x4) < 0 then (some ((-1), true)) else (if (rd x147003 x4) ≥ x147001 then (some ((-1), true)) else (swageref08_Check.l0 k (wrap64 (x4 + 1)) x147000 x147001 x147002 x147003))) else (none)) else (swageref08_Check.l1 k 0 x147000 x147001 x147002 x147003)
def swageref08_Check.l1 : Nat → Int → Int → Int → List (S37) → List Int → Option (Int × Bool)
  | 0, _, _, _, _, _ => none
  | k + 1, x5, x147000, x147001, x147002, x147003 => if x5 < (x147002.length : Int) then (if 0 ≤ x5 then ((swageref08_May.f k ((rd_T37 x147002 x5).f0) ((rd_T37 x147002 x5).f1) ((rd_T37 x147002 x5).f2) ((rd_T37 x147002 x5).f3) ((rd_T37 x147002 x5).f4) x147001).bind fun t150 => (if t150 = true then (swageref08_Check.l1 k (wrap64 (x5 + 1)) x147000 x147001 x147002 x147003) else (some (x5, true)))) else (none)) else (some (0, false))
end
def swageref08_Check.f (k : Nat) (a0_0 : Int) (a0_1 : Int) (l0_2 : List (S37)) (l0_3 : List Int) : Option (Int × Bool) := if a0_0 < 1 then (swageref08_Check.j0 k true a0_0 a0_1 l0_2 l0_3) else (if a0_0 > a0_1 then (swageref08_Check.j0 k true a0_0 a0_1 l0_2 l0_3) else (if a0_1 > 128 then (swageref08_Check.j0 k true a0_0 a0_1 l0_2 l0_3) else (if (l0_2.length : Int) > 16384 then (swageref08_Check.j0 k true a0_0 a0_1 l0_2 l0_3) else (if (l0_3.length : Int) < 1 then (swageref08_Check.j0 k true a0_0 a0_1 l0_2 l0_3) else (swageref08_Check.j0 k (decide (128 < l0_3.length)) a0_0 a0_1 l0_2 l0_3)))))
def swageref08_Check.T6 : Bool × List (List Nat × List Nat) := (true, [([], []), ([0], [0]), ([], []), ([1, 2], [1, 2]), ([3], [3]), ([4], [4]), ([5], [5]), ([6], [6]), ([7, 6], [6, 7]), ([6], [6]), ([8, 9, 6], [6, 8, 9]), ([10, 6], [6, 10]), ([6], [6]), ([12, 6], [6, 12]), ([11, 13, 6], [6, 11, 13]), ([6, 14], [6, 14])])
def swageref08_Check.B6 : List Nat := [0, 1, 0, 7, 15, 31, 63, 127, 255, 127, 1023, 2047, 127, 4223, 16383, 32767]
theorem swageref08_Check.tab6 : rtab .any (opsOf Tryd.f12 6) = swageref08_Check.T6 := by kernel_rfl
theorem swageref08_Check.bits6 : waitsOk swageref08_Check.T6.2 swageref08_Check.B6 = true := by kernel_rfl
def swageref08_Check.T11 : Bool × List (List Nat × List Nat) := (true, [([], []), ([0], [0]), ([], []), ([1, 2], [1, 2]), ([3], [3]), ([], []), ([5], [5]), ([4, 6], [4, 6]), ([7], [7])])
def swageref08_Check.B11 : List Nat := [0, 1, 0, 7, 15, 0, 32, 127, 255]
theorem swageref08_Check.tab11 : rtab .any (opsOf Tryd.f12 11) = swageref08_Check.T11 := by kernel_rfl
theorem swageref08_Check.bits11 : waitsOk swageref08_Check.T11.2 swageref08_Check.B11 = true := by kernel_rfl
set_option maxHeartbeats 8000000 in
set_option maxRecDepth 100000 in
theorem swageref08_Check.calls (k : Nat) (a0_0 : Int) (a0_1 : Int) (A0_2 : Option Addr) (c0_2 : Nat) (l0_2 : List (S37)) (A0_3 : Option Addr) (c0_3 : Nat) (l0_3 : List Int) (r1 : Int) (r2 : Bool) (w : World) (hr0_2 : Kd.C k37 w A0_2 l0_2.length l0_2) (hc0_2 : l0_2.length ≤ c0_2) (hr0_3 : Kd.C (Kd.int .i64) w A0_3 l0_3.length l0_3) (hc0_3 : l0_3.length ≤ c0_3) (h : swageref08_Check.f k a0_0 a0_1 l0_2 l0_3 = some (r1, r2)) :
    Calls Tryd.prog 12 #[.agg #[.int .i64 a0_0, .int .i64 a0_1, .slice A0_2 l0_2.length c0_2, .slice A0_3 l0_3.length c0_3]] w fun e w' => e = .returned (.tuple #[.int .i64 r1, .bool r2]) ∧ Below w.heap.size w w' := by
  have hu25 := Tryd.underlying25
  have hu37 := Tryd.underlying37
  have HR0_2 := Aside0.mk hr0_2
  have HC0_2 := Aside0.mk hc0_2
  clear hr0_2 hc0_2
  have HR0_3 := Aside0.mk hr0_3
  have HC0_3 := Aside0.mk hc0_3
  clear hr0_3 hc0_3
  have HB := Aside0.mk (Below.refl w.heap.size w)
  have H : (if a0_0 < 1 then (swageref08_Check.j0 k true a0_0 a0_1 l0_2 l0_3) else (if a0_0 > a0_1 then (swageref08_Check.j0 k true a0_0 a0_1 l0_2 l0_3) else (if a0_1 > 128 then (swageref08_Check.j0 k true a0_0 a0_1 l0_2 l0_3) else (if (l0_2.length : Int) > 16384 then (swageref08_Check.j0 k true a0_0 a0_1 l0_2 l0_3) else (if (l0_3.length : Int) < 1 then (swageref08_Check.j0 k true a0_0 a0_1 l0_2 l0_3) else (swageref08_Check.j0 k (decide (128 < l0_3.length)) a0_0 a0_1 l0_2 l0_3)))))) = some (r1, r2) := h
  clear h
  have HC2 := Aside0.mk H
  clear H
  go_enter Tryd.func12, Tryd.ntmps12
  go_upto_region 1 with (first | ((with_reducible refine gate_dst (N := 1) rfl ?_); (try (refine gate_guard (by rfl) ?_; dsimp only)); refine box_event ?hg (N := 1) ?hd (cs := #[.int .i64 a0_0, .int .i64 a0_1, .slice A0_2 l0_2.length c0_2, .slice A0_3 l0_3.length c0_3]) (t := 25) ?hr ?_; (case hd => rfl); (case hg => rfl); (case hr => first | (go_simp; done) | (go_simp; rfl)); intro gb146 hg w3 hbox hb; have n0_ := Aside0.mk (below_step (by repeat (first | (with_reducible first | exact HB.out | apply below_alloc | apply pw_below_drewN | apply below_drew1) | exact HB.out)) hb); have n1_ := Aside0.mk (hbox); have n2_ := Aside0.mk ((by rw [hg]; exact (below_size (by repeat (first | (with_reducible first | exact HB.out | apply below_alloc | apply pw_below_drewN | apply below_drew1) | exact HB.out))) : w.heap.size ≤ gb146)); have n3_ := Aside0.mk ((by rw [hg]; exact (below_size (by repeat (first | (with_reducible first | exact HB.out | apply below_alloc | apply pw_below_drewN | apply below_drew1) | exact HB.out))) : w.heap.size ≤ gb146)); clear HB; have HB := n0_; have BK146 := n1_; have GW146 := n2_; have GE146 := n3_; clear n0_ n1_ n2_ n3_; clear hb hbox hg))
  (try simp only [Act.put, List.setIfInBounds_toArray, List.set_cons_zero, List.set_cons_succ])
  go_cut [38] (fun v38 wc => ∃ (kq : Nat) (x38_1 : Bool), v38 = .bool x38_1 ∧ Aside0 (swageref08_Check.j0 kq x38_1 a0_0 a0_1 l0_2 l0_3 = some (r1, r2)) ∧ Aside0 (kq ≤ k) ∧ Aside0 (wc.heap[gb146]? = some (.cells #[.int .i64 a0_0, .int .i64 a0_1, (.slice A0_2 l0_2.length c0_2), (.slice A0_3 l0_3.length c0_3)] 25 (0, 0))) ∧ Aside0 (Below w.heap.size w wc))
  case first =>
    have H := HC2.out
    clear HC2
    by_cases c4 : a0_0 < 1
    · rw [if_pos c4] at H
      have c4b0 : decide (a0_0 < 1) = true := decide_eq_true c4
      clear c4
      (first | rw [c4b0] | (simp only [i64_w, i32_w]; rw [c4b0]) | skip)
      have H' := Aside0.mk H
      clear H
      have hcz5_0 : w3.cell? ⟨gb146, 0, none⟩ = some (.int .i64 a0_0) := (blk_cell BK146.out 0).trans rfl
      have hcz5_1 : w3.cell? ⟨gb146, 1, none⟩ = some (.int .i64 a0_1) := (blk_cell BK146.out 1).trans rfl
      have hcz5_2 : w3.cell? ⟨gb146, 2, none⟩ = some (.slice A0_2 l0_2.length c0_2) := (blk_cell BK146.out 2).trans rfl
      have hcz5_3 : w3.cell? ⟨gb146, 3, none⟩ = some (.slice A0_3 l0_3.length c0_3) := (blk_cell BK146.out 3).trans rfl
      have hfz5_0 := blk_frozen BK146.out 0
      have hfz5_1 := blk_frozen BK146.out 1
      have hfz5_2 := blk_frozen BK146.out 2
      have hfz5_3 := blk_frozen BK146.out 3
      go_wp2
      go_meet
      case rel => exact ⟨_, (true), (by first | rfl | (simp; done) | (simp [*]; done)), H', ⟨by first | omega | exact Nat.le_refl _⟩, ⟨by (with_reducible repeat (first | refine blk_drewN ?_ _ | refine blk_drew ?_ | refine blk_alloc ?_ _)); exact BK146.out⟩, ⟨by repeat (first | (with_reducible first | exact HB.out | apply below_alloc | apply pw_below_drewN | apply below_drew1 | refine below_set ?_ GE146.out) | exact HB.out)⟩⟩
    · rw [if_neg c4] at H
      have c4b0 : decide (a0_0 < 1) = false := decide_eq_false c4
      clear c4
      (first | rw [c4b0] | (simp only [i64_w, i32_w]; rw [c4b0]) | skip)
      by_cases c6 : a0_0 > a0_1
      · rw [if_pos c6] at H
        have c6b0 : decide (a0_1 < a0_0) = true := decide_eq_true c6
        clear c6
        have H' := Aside0.mk H
        clear H
        have hcz7_0 : w3.cell? ⟨gb146, 0, none⟩ = some (.int .i64 a0_0) := (blk_cell BK146.out 0).trans rfl
        have hcz7_1 : w3.cell? ⟨gb146, 1, none⟩ = some (.int .i64 a0_1) := (blk_cell BK146.out 1).trans rfl
        have hcz7_2 : w3.cell? ⟨gb146, 2, none⟩ = some (.slice A0_2 l0_2.length c0_2) := (blk_cell BK146.out 2).trans rfl
        have hcz7_3 : w3.cell? ⟨gb146, 3, none⟩ = some (.slice A0_3 l0_3.length c0_3) := (blk_cell BK146.out 3).trans rfl
        have hfz7_0 := blk_frozen BK146.out 0
        have hfz7_1 := blk_frozen BK146.out 1
        have hfz7_2 := blk_frozen BK146.out 2
        have hfz7_3 := blk_frozen BK146.out 3
        go_wp2
        go_meet
        case rel => exact ⟨_, (true), (by first | rfl | (simp; done) | (simp [*]; done)), H', ⟨by first | omega | exact Nat.le_refl _⟩, ⟨by (with_reducible repeat (first | refine blk_drewN ?_ _ | refine blk_drew ?_ | refine blk_alloc ?_ _)); exact BK146.out⟩, ⟨by repeat (first | (with_reducible first | exact HB.out | apply below_alloc | apply pw_below_drewN | apply below_drew1 | refine below_set ?_ GE146.out) | exact HB.out)⟩⟩
      · rw [if_neg c6] at H
        have c6b0 : decide (a0_1 < a0_0) = false := decide_eq_false c6
        clear c6
        by_cases c8 : a0_1 > 128
        · rw [if_pos c8] at H
          have c8b0 : decide (128 < a0_1) = true := decide_eq_true c8
          clear c8
          have H' := Aside0.mk H
          clear H
          have hcz9_0 : w3.cell? ⟨gb146, 0, none⟩ = some (.int .i64 a0_0) := (blk_cell BK146.out 0).trans rfl
          have hcz9_1 : w3.cell? ⟨gb146, 1, none⟩ = some (.int .i64 a0_1) := (blk_cell BK146.out 1).trans rfl
          have hcz9_2 : w3.cell? ⟨gb146, 2, none⟩ = some (.slice A0_2 l0_2.length c0_2) := (blk_cell BK146.out 2).trans rfl
          have hcz9_3 : w3.cell? ⟨gb146, 3, none⟩ = some (.slice A0_3 l0_3.length c0_3) := (blk_cell BK146.out 3).trans rfl
          have hfz9_0 := blk_frozen BK146.out 0
          have hfz9_1 := blk_frozen BK146.out 1
          have hfz9_2 := blk_frozen BK146.out 2
          have hfz9_3 := blk_frozen BK146.out 3
          go_wp2
          go_meet
          case rel => exact ⟨_, (true), (by first | rfl | (simp; done) | (simp [*]; done)), H', ⟨by first | omega | exact Nat.le_refl _⟩, ⟨by (with_reducible repeat (first | refine blk_drewN ?_ _ | refine blk_drew ?_ | refine blk_alloc ?_ _)); exact BK146.out⟩, ⟨by repeat (first | (with_reducible first | exact HB.out | apply below_alloc | apply pw_below_drewN | apply below_drew1 | refine below_set ?_ GE146.out) | exact HB.out)⟩⟩
        · rw [if_neg c8] at H
          have c8b0 : decide (128 < a0_1) = false := decide_eq_false c8
          clear c8
          by_cases c10 : (l0_2.length : Int) > 16384
          · rw [if_pos c10] at H
            have c10b0 : decide (16384 < (l0_2.length : Int)) = true := decide_eq_true c10
            have c10b1 : decide (16384 < l0_2.length) = true := decide_eq_true (by omega)
            clear c10
            have H' := Aside0.mk H
            clear H
            have hcz11_0 : w3.cell? ⟨gb146, 0, none⟩ = some (.int .i64 a0_0) := (blk_cell BK146.out 0).trans rfl
            have hcz11_1 : w3.cell? ⟨gb146, 1, none⟩ = some (.int .i64 a0_1) := (blk_cell BK146.out 1).trans rfl
            have hcz11_2 : w3.cell? ⟨gb146, 2, none⟩ = some (.slice A0_2 l0_2.length c0_2) := (blk_cell BK146.out 2).trans rfl
            have hcz11_3 : w3.cell? ⟨gb146, 3, none⟩ = some (.slice A0_3 l0_3.length c0_3) := (blk_cell BK146.out 3).trans rfl
            have hfz11_0 := blk_frozen BK146.out 0
            have hfz11_1 := blk_frozen BK146.out 1
            have hfz11_2 := blk_frozen BK146.out 2
            have hfz11_3 := blk_frozen BK146.out 3
            go_wp2
            go_meet
            case rel => exact ⟨_, (true), (by first | rfl | (simp; done) | (simp [*]; done)), H', ⟨by first | omega | exact Nat.le_refl _⟩, ⟨by (with_reducible repeat (first | refine blk_drewN ?_ _ | refine blk_drew ?_ | refine blk_alloc ?_ _)); exact BK146.out⟩, ⟨by repeat (first | (with_reducible first | exact HB.out | apply below_alloc | apply pw_below_drewN | apply below_drew1 | refine below_set ?_ GE146.out) | exact HB.out)⟩⟩
          · rw [if_neg c10] at H
            have c10b0 : decide (16384 < (l0_2.length : Int)) = false := decide_eq_false c10
            have c10b1 : decide (16384 < l0_2.length) = false := decide_eq_false (by omega)
            clear c10
            by_cases c12 : (l0_3.length : Int) < 1
            · rw [if_pos c12] at H
              have c12b0 : decide ((l0_3.length : Int) < 1) = true := decide_eq_true c12
              have c12b1 : decide (l0_3.length < 1) = true := decide_eq_true (by omega)
              clear c12
              have H' := Aside0.mk H
              clear H
              have hcz13_0 : w3.cell? ⟨gb146, 0, none⟩ = some (.int .i64 a0_0) := (blk_cell BK146.out 0).trans rfl
              have hcz13_1 : w3.cell? ⟨gb146, 1, none⟩ = some (.int .i64 a0_1) := (blk_cell BK146.out 1).trans rfl
              have hcz13_2 : w3.cell? ⟨gb146, 2, none⟩ = some (.slice A0_2 l0_2.length c0_2) := (blk_cell BK146.out 2).trans rfl
              have hcz13_3 : w3.cell? ⟨gb146, 3, none⟩ = some (.slice A0_3 l0_3.length c0_3) := (blk_cell BK146.out 3).trans rfl
              have hfz13_0 := blk_frozen BK146.out 0
              have hfz13_1 := blk_frozen BK146.out 1
              have hfz13_2 := blk_frozen BK146.out 2
              have hfz13_3 := blk_frozen BK146.out 3
              go_wp2
              go_meet
              case rel => exact ⟨_, (true), (by first | rfl | (simp; done) | (simp [*]; done)), H', ⟨by first | omega | exact Nat.le_refl _⟩, ⟨by (with_reducible repeat (first | refine blk_drewN ?_ _ | refine blk_drew ?_ | refine blk_alloc ?_ _)); exact BK146.out⟩, ⟨by repeat (first | (with_reducible first | exact HB.out | apply below_alloc | apply pw_below_drewN | apply below_drew1 | refine below_set ?_ GE146.out) | exact HB.out)⟩⟩
            · rw [if_neg c12] at H
              have c12b0 : decide ((l0_3.length : Int) < 1) = false := decide_eq_false c12
              have c12b1 : decide (l0_3.length < 1) = false := decide_eq_false (by omega)
              clear c12
              have H' := Aside0.mk H
              clear H
              have hcz14_0 : w3.cell? ⟨gb146, 0, none⟩ = some (.int .i64 a0_0) := (blk_cell BK146.out 0).trans rfl
              have hcz14_1 : w3.cell? ⟨gb146, 1, none⟩ = some (.int .i64 a0_1) := (blk_cell BK146.out 1).trans rfl
              have hcz14_2 : w3.cell? ⟨gb146, 2, none⟩ = some (.slice A0_2 l0_2.length c0_2) := (blk_cell BK146.out 2).trans rfl
              have hcz14_3 : w3.cell? ⟨gb146, 3, none⟩ = some (.slice A0_3 l0_3.length c0_3) := (blk_cell BK146.out 3).trans rfl
              have hfz14_0 := blk_frozen BK146.out 0
              have hfz14_1 := blk_frozen BK146.out 1
              have hfz14_2 := blk_frozen BK146.out 2
              have hfz14_3 := blk_frozen BK146.out 3
              go_wp2
              go_meet
              case rel => exact ⟨_, (decide (128 < l0_3.length)), (by first | rfl | (simp; done) | (simp [*]; done) | (simp; omega)), H', ⟨by first | omega | exact Nat.le_refl _⟩, ⟨by (with_reducible repeat (first | refine blk_drewN ?_ _ | refine blk_drew ?_ | refine blk_alloc ?_ _)); exact BK146.out⟩, ⟨by repeat (first | (with_reducible first | exact HB.out | apply below_alloc | apply pw_below_drewN | apply below_drew1 | refine below_set ?_ GE146.out) | exact HB.out)⟩⟩
  case rest =>
    clear HC2
    obtain ⟨kq, x38_1, rfl, HA, HJ1, BK146, HB⟩ := hcut
    cases kq with
    | zero => exact absurd HA.out (by simp [swageref08_Check.j0])
    | succ kj1 =>
      have H := HA.out
      clear HA
      simp only [swageref08_Check.j0] at H
      by_cases c15 : x38_1 = true
      · subst c15
        have H1 : (some ((-1), true)) = some (r1, r2) := by rw [if_pos rfl] at H; exact H
        clear H
        have H := H1
        clear H1
        simp only [Option.some.injEq, Prod.mk.injEq] at H
        obtain ⟨rfl, rfl⟩ := H
        go_wp2
        go_ret2
        exact ⟨by first | rfl | (simp [errW_none, errW_some] <;> rfl) | (simp [*, errW_none, errW_some] <;> rfl), by repeat (first | (with_reducible first | exact HB.out | apply below_alloc | apply pw_below_drewN | apply below_drew1 | refine below_set ?_ GE146.out) | exact HB.out)⟩
      · replace c15 := Bool.eq_false_iff.mpr c15
        subst c15
        have H1 : (swageref08_Check.l0 kj1 0 a0_0 a0_1 l0_2 l0_3) = some (r1, r2) := by rw [if_neg (show ¬ (false = true) by decide)] at H; exact H
        clear H
        have H := H1
        clear H1
        have H' := Aside0.mk H
        clear H
        go_wp2
        go_loopg [4] kj1 (fun kq v4 w' => ∃ (x4_2 : Int), v4 = .int .i64 x4_2 ∧ Aside0 (swageref08_Check.l0 kq x4_2 a0_0 a0_1 l0_2 l0_3 = some (r1, r2)) ∧ Aside0 (kq ≤ kj1) ∧ Aside0 (w'.heap[gb146]? = some (.cells #[.int .i64 a0_0, .int .i64 a0_1, (.slice A0_2 l0_2.length c0_2), (.slice A0_3 l0_3.length c0_3)] 25 (0, 0))) ∧ Aside0 (Below w.heap.size w w'))
        case atStart => exact ⟨(0), (by first | rfl | (simp; done) | (simp [*]; done)), H', ⟨Nat.le_refl _⟩, ⟨by (with_reducible repeat (first | refine blk_drewN ?_ _ | refine blk_drew ?_ | refine blk_alloc ?_ _)); exact BK146.out⟩, ⟨by repeat (first | (with_reducible first | exact HB.out | apply below_alloc | apply pw_below_drewN | apply below_drew1 | refine below_set ?_ GE146.out) | exact HB.out)⟩⟩
        case round =>
          clear H'
          try clear c15
          obtain ⟨x4_2, rfl, HA, HK2, BK146, HB⟩ := hrel
          cases gk with
          | zero => exact absurd HA.out (by simp [swageref08_Check.l0])
          | succ k2 =>
            have H := HA.out
            clear HA
            simp only [swageref08_Check.l0] at H
            by_cases c16 : x4_2 < (l0_3.length : Int)
            · rw [if_pos c16] at H
              have c16b0 : decide (x4_2 < (l0_3.length : Int)) = true := decide_eq_true c16
              clear c16
              by_cases c17 : 0 ≤ x4_2
              · rw [if_pos c17] at H
                have c17b0 : decide (0 ≤ x4_2) = true := decide_eq_true c17
                clear c17
                by_cases c18 : (rd l0_3 x4_2) < 0
                · rw [if_pos c18] at H
                  have c18b0 : decide ((rd l0_3 x4_2) < 0) = true := decide_eq_true c18
                  clear c18
                  simp only [Option.some.injEq, Prod.mk.injEq] at H
                  obtain ⟨rfl, rfl⟩ := H
                  have hcz19_0 : wr.cell? ⟨gb146, 0, none⟩ = some (.int .i64 a0_0) := (blk_cell BK146.out 0).trans rfl
                  have hcz19_1 : wr.cell? ⟨gb146, 1, none⟩ = some (.int .i64 a0_1) := (blk_cell BK146.out 1).trans rfl
                  have hcz19_2 : wr.cell? ⟨gb146, 2, none⟩ = some (.slice A0_2 l0_2.length c0_2) := (blk_cell BK146.out 2).trans rfl
                  have hcz19_3 : wr.cell? ⟨gb146, 3, none⟩ = some (.slice A0_3 l0_3.length c0_3) := (blk_cell BK146.out 3).trans rfl
                  have hfz19_0 := blk_frozen BK146.out 0
                  have hfz19_1 := blk_frozen BK146.out 1
                  have hfz19_2 := blk_frozen BK146.out 2
                  have hfz19_3 := blk_frozen BK146.out 3
                  try go_wp2
                  have n0_ := Aside0.mk (blk_drew BK146.out)
                  have n1_ := Aside0.mk (below_drew1 HB.out)
                  clear BK146
                  clear HB
                  have BK146 := n0_
                  have HB := n1_
                  clear n0_ n1_
                  have p147 : 0 ≤ (x4_2 : Int) := of_decide_eq_true (by first | (with_reducible assumption) | assumption)
                  have q147 : x4_2 < (l0_3.length : Int) := of_decide_eq_true (by first | (with_reducible assumption) | assumption)
                  obtain ⟨ad147, e147, hx147_0⟩ := Kd.at_int HR0_3.out x4_2 p147 q147
                  have hw147_0 := hx147_0
                  cases e147
                  replace hx147_0 := (HB.out.cell (World.block_lt_of_cell? w _ hx147_0)).trans hx147_0
                  replace p147 := eq_true p147
                  replace q147 := eq_true q147
                  refine start_ (n := 16) (S := fun w' => w'.cell? ⟨gb146, 0, none⟩ = some (.int .i64 a0_0) ∧ w'.cell? ⟨gb146, 1, none⟩ = some (.int .i64 a0_1) ∧ w'.cell? ⟨gb146, 2, none⟩ = some (.slice A0_2 l0_2.length c0_2) ∧ w'.cell? ⟨gb146, 3, none⟩ = some (.slice (some ad147) l0_3.length c0_3) ∧ w'.cell? (ad147.add (x4_2).toNat) = some (.int .i64 (rd l0_3 x4_2))) (ds := []) #[false, false, false, false, false, false, false, false, false, false, false, false, false, false, false, false] (by kernel_rfl) rfl rfl ⟨(blk_cell BK146.out 0).trans rfl, (blk_cell BK146.out 1).trans rfl, (blk_cell BK146.out 2).trans rfl, (blk_cell BK146.out 3).trans rfl, ((HB.out.cell (World.block_lt_of_cell? w _ hw147_0)).trans hw147_0)⟩ (fun hHeld => ?_); refine with_tabW swageref08_Check.tab6 swageref08_Check.bits6 (fun HT_ HW_ => ?_)
                  generalize wr.drew = w20 at BK146 HB hx147_0 hHeld ⊢
                  refine pure_ (i := 0) (N := some 46) (v := ?_) (a' := ?_) #[true, false, false, false, false, false, false, false, false, false, false, false, false, false, false, false] rfl rfl (any_of HT_.out (by kernel_rfl)) (fun _ _ _ h => h) (Or.inl ⟨by rfl, ?_⟩) ?_ ?_
                  rotate_left
                  · intro w'
                    go_simp
                    with_reducible rfl
                  rotate_left
                  · simp only [Act.put, List.setIfInBounds_toArray, List.set_cons_zero, List.set_cons_succ, i64_w, i32_w]
                    rfl
                  refine pure_ (i := 2) (N := some 48) (v := ?_) (a' := ?_) #[true, false, true, false, false, false, false, false, false, false, false, false, false, false, false, false] rfl rfl (any_of HT_.out (by kernel_rfl)) (fun _ _ _ h => h) (Or.inl ⟨by rfl, ?_⟩) ?_ ?_
                  rotate_left
                  · intro w'
                    go_simp
                    with_reducible rfl
                  rotate_left
                  · simp only [Act.put, List.setIfInBounds_toArray, List.set_cons_zero, List.set_cons_succ, i64_w, i32_w]
                    rfl
                  refine take_ (i := 1) (N := some 47) (v := ?_) (a' := ?_) #[true, true, true, false, false, false, false, false, false, false, false, false, false, false, false, false] rfl rfl (take_ofW HT_.out HW_.out (by kernel_rfl)) (fun _ _ _ h => h) (Or.inl ⟨by rfl, ?_⟩) hHeld ?_ ?_
                  rotate_left
                  · rintro w' ⟨s0, s1, s2, s3, s4⟩
                    go_simp
                    with_reducible rfl
                  rotate_left
                  · simp only [Act.put, List.setIfInBounds_toArray, List.set_cons_zero, List.set_cons_succ, i64_w, i32_w]
                    rfl
                  refine pure_ (i := 3) (N := some 49) (v := ?_) (a' := ?_) #[true, true, true, true, false, false, false, false, false, false, false, false, false, false, false, false] rfl rfl (any_of HT_.out (by kernel_rfl)) (fun _ _ _ h => h) (Or.inl ⟨by rfl, ?_⟩) ?_ ?_
                  rotate_left
                  · intro w'
                    go_simp
                    with_reducible rfl
                  rotate_left
                  · simp only [Act.put, List.setIfInBounds_toArray, List.set_cons_zero, List.set_cons_succ, i64_w, i32_w]
                    rfl
                  refine take_ (i := 4) (N := some 50) (v := ?_) (a' := ?_) #[true, true, true, true, true, false, false, false, false, false, false, false, false, false, false, false] rfl rfl (take_ofW HT_.out HW_.out (by kernel_rfl)) (fun _ _ _ h => h) (Or.inl ⟨by rfl, ?_⟩) hHeld ?_ ?_
                  rotate_left
                  · rintro w' ⟨s0, s1, s2, s3, s4⟩
                    go_simp
                    with_reducible rfl
                  rotate_left
                  · simp only [Act.put, List.setIfInBounds_toArray, List.set_cons_zero, List.set_cons_succ, i64_w, i32_w]
                    rfl
                  refine pure_ (i := 5) (N := some 51) (v := ?_) (a' := ?_) #[true, true, true, true, true, true, false, false, false, false, false, false, false, false, false, false] rfl rfl (any_of HT_.out (by kernel_rfl)) (fun _ _ _ h => h) (Or.inl ⟨by rfl, ?_⟩) ?_ ?_
                  rotate_left
                  · intro w'
                    go_simp
                    with_reducible rfl
                  rotate_left
                  · simp only [Act.put, List.setIfInBounds_toArray, List.set_cons_zero, List.set_cons_succ, i64_w, i32_w]
                    rfl
                  refine pure_ (i := 6) (N := some 52) (v := ?_) (a' := ?_) #[true, true, true, true, true, true, true, false, false, false, false, false, false, false, false, false] rfl rfl (any_of HT_.out (by kernel_rfl)) (fun _ _ _ h => h) (Or.inl ⟨by rfl, ?_⟩) ?_ ?_
                  rotate_left
                  · intro w'
                    go_simp
                    with_reducible rfl
                  rotate_left
                  · simp only [Act.put, List.setIfInBounds_toArray, List.set_cons_zero, List.set_cons_succ, i64_w, i32_w]
                    rfl
                  refine pure_ (i := 7) (N := some 53) (v := undef) (a' := ?_) #[true, true, true, true, true, true, true, true, false, false, false, false, false, false, false, false] rfl rfl (any_of HT_.out (by kernel_rfl)) (fun _ _ _ h => h) (Or.inr ⟨by rfl, rfl⟩) ?_ ?_
                  rotate_left
                  · simp only [Act.put, List.setIfInBounds_toArray, List.set_cons_zero, List.set_cons_succ, i64_w, i32_w]
                    rfl
                  refine pure_ (i := 8) (N := some 54) (v := undef) (a' := ?_) #[true, true, true, true, true, true, true, true, true, false, false, false, false, false, false, false] rfl rfl (any_of HT_.out (by kernel_rfl)) (fun _ _ _ h => h) (Or.inr ⟨by rfl, rfl⟩) ?_ ?_
                  rotate_left
                  · simp only [Act.put, List.setIfInBounds_toArray, List.set_cons_zero, List.set_cons_succ, i64_w, i32_w]
                    rfl
                  refine pure_ (i := 9) (N := some 55) (v := undef) (a' := ?_) #[true, true, true, true, true, true, true, true, true, true, false, false, false, false, false, false] rfl rfl (any_of HT_.out (by kernel_rfl)) (fun _ _ _ h => h) (Or.inr ⟨by rfl, rfl⟩) ?_ ?_
                  rotate_left
                  · simp only [Act.put, List.setIfInBounds_toArray, List.set_cons_zero, List.set_cons_succ, i64_w, i32_w]
                    rfl
                  refine pure_ (i := 10) (N := some 56) (v := undef) (a' := ?_) #[true, true, true, true, true, true, true, true, true, true, true, false, false, false, false, false] rfl rfl (any_of HT_.out (by kernel_rfl)) (fun _ _ _ h => h) (Or.inr ⟨by rfl, rfl⟩) ?_ ?_
                  rotate_left
                  · simp only [Act.put, List.setIfInBounds_toArray, List.set_cons_zero, List.set_cons_succ, i64_w, i32_w]
                    rfl
                  refine pure_ (i := 11) (N := some 57) (v := undef) (a' := ?_) #[true, true, true, true, true, true, true, true, true, true, true, true, false, false, false, false] rfl rfl (any_of HT_.out (by kernel_rfl)) (fun _ _ _ h => h) (Or.inr ⟨by rfl, rfl⟩) ?_ ?_
                  rotate_left
                  · simp only [Act.put, List.setIfInBounds_toArray, List.set_cons_zero, List.set_cons_succ, i64_w, i32_w]
                    rfl
                  refine pure_ (i := 12) (N := some 58) (v := undef) (a' := ?_) #[true, true, true, true, true, true, true, true, true, true, true, true, true, false, false, false] rfl rfl (any_of HT_.out (by kernel_rfl)) (fun _ _ _ h => h) (Or.inr ⟨by rfl, rfl⟩) ?_ ?_
                  rotate_left
                  · simp only [Act.put, List.setIfInBounds_toArray, List.set_cons_zero, List.set_cons_succ, i64_w, i32_w]
                    rfl
                  refine pure_ (i := 13) (N := some 59) (v := undef) (a' := ?_) #[true, true, true, true, true, true, true, true, true, true, true, true, true, true, false, false] rfl rfl (any_of HT_.out (by kernel_rfl)) (fun _ _ _ h => h) (Or.inr ⟨by rfl, rfl⟩) ?_ ?_
                  rotate_left
                  · simp only [Act.put, List.setIfInBounds_toArray, List.set_cons_zero, List.set_cons_succ, i64_w, i32_w]
                    rfl
                  refine pure_ (i := 14) (N := some 60) (v := undef) (a' := ?_) #[true, true, true, true, true, true, true, true, true, true, true, true, true, true, true, false] rfl rfl (any_of HT_.out (by kernel_rfl)) (fun _ _ _ h => h) (Or.inr ⟨by rfl, rfl⟩) ?_ ?_
                  rotate_left
                  · simp only [Act.put, List.setIfInBounds_toArray, List.set_cons_zero, List.set_cons_succ, i64_w, i32_w]
                    rfl
                  refine pure_ (i := 15) (N := some 61) (v := ?_) (a' := ?_) #[true, true, true, true, true, true, true, true, true, true, true, true, true, true, true, true] rfl rfl (any_of HT_.out (by kernel_rfl)) (fun _ _ _ h => h) (Or.inl ⟨by rfl, ?_⟩) ?_ ?_
                  rotate_left
                  · intro w'
                    go_simp
                    with_reducible rfl
                  rotate_left
                  · simp only [Act.put, List.setIfInBounds_toArray, List.set_cons_zero, List.set_cons_succ, i64_w, i32_w]
                    rfl
                  refine done_ (done_of HT_.out (by kernel_rfl)) ?_
                  try go_wp2
                  go_ret2
                  exact ⟨by first | rfl | (simp [errW_none, errW_some] <;> rfl) | (simp [*, errW_none, errW_some] <;> rfl), by repeat (first | (with_reducible first | exact HB.out | apply below_alloc | apply pw_below_drewN | apply below_drew1 | refine below_set ?_ GE146.out) | exact HB.out)⟩
                · rw [if_neg c18] at H
                  have c18b0 : decide ((rd l0_3 x4_2) < 0) = false := decide_eq_false c18
                  clear c18
                  by_cases c21 : (rd l0_3 x4_2) ≥ a0_1
                  · rw [if_pos c21] at H
                    have c21b0 : decide (a0_1 ≤ (rd l0_3 x4_2)) = true := decide_eq_true c21
                    clear c21
                    simp only [Option.some.injEq, Prod.mk.injEq] at H
                    obtain ⟨rfl, rfl⟩ := H
                    have hcz22_0 : wr.cell? ⟨gb146, 0, none⟩ = some (.int .i64 a0_0) := (blk_cell BK146.out 0).trans rfl
                    have hcz22_1 : wr.cell? ⟨gb146, 1, none⟩ = some (.int .i64 a0_1) := (blk_cell BK146.out 1).trans rfl
                    have hcz22_2 : wr.cell? ⟨gb146, 2, none⟩ = some (.slice A0_2 l0_2.length c0_2) := (blk_cell BK146.out 2).trans rfl
                    have hcz22_3 : wr.cell? ⟨gb146, 3, none⟩ = some (.slice A0_3 l0_3.length c0_3) := (blk_cell BK146.out 3).trans rfl
                    have hfz22_0 := blk_frozen BK146.out 0
                    have hfz22_1 := blk_frozen BK146.out 1
                    have hfz22_2 := blk_frozen BK146.out 2
                    have hfz22_3 := blk_frozen BK146.out 3
                    try go_wp2
                    have n0_ := Aside0.mk (blk_drew BK146.out)
                    have n1_ := Aside0.mk (below_drew1 HB.out)
                    clear BK146
                    clear HB
                    have BK146 := n0_
                    have HB := n1_
                    clear n0_ n1_
                    have p147 : 0 ≤ (x4_2 : Int) := of_decide_eq_true (by first | (with_reducible assumption) | assumption)
                    have q147 : x4_2 < (l0_3.length : Int) := of_decide_eq_true (by first | (with_reducible assumption) | assumption)
                    obtain ⟨ad147, e147, hx147_0⟩ := Kd.at_int HR0_3.out x4_2 p147 q147
                    have hw147_0 := hx147_0
                    cases e147
                    replace hx147_0 := (HB.out.cell (World.block_lt_of_cell? w _ hx147_0)).trans hx147_0
                    replace p147 := eq_true p147
                    replace q147 := eq_true q147
                    have p148 : 0 ≤ (x4_2 : Int) := of_decide_eq_true (by first | (with_reducible assumption) | assumption)
                    have q148 : x4_2 < (l0_3.length : Int) := of_decide_eq_true (by first | (with_reducible assumption) | assumption)
                    obtain ⟨ad148, e148, hx148_0⟩ := Kd.at_int HR0_3.out x4_2 p148 q148
                    have hw148_0 := hx148_0
                    obtain rfl : ad147 = ad148 := (by injection e148)
                    replace hx148_0 := (HB.out.cell (World.block_lt_of_cell? w _ hx148_0)).trans hx148_0
                    replace p148 := eq_true p148
                    replace q148 := eq_true q148
                    refine start_ (n := 16) (S := fun w' => w'.cell? ⟨gb146, 0, none⟩ = some (.int .i64 a0_0) ∧ w'.cell? ⟨gb146, 1, none⟩ = some (.int .i64 a0_1) ∧ w'.cell? ⟨gb146, 2, none⟩ = some (.slice A0_2 l0_2.length c0_2) ∧ w'.cell? ⟨gb146, 3, none⟩ = some (.slice (some ad147) l0_3.length c0_3) ∧ w'.cell? (ad147.add (x4_2).toNat) = some (.int .i64 (rd l0_3 x4_2)) ∧ w'.cell? (ad147.add (x4_2).toNat) = some (.int .i64 (rd l0_3 x4_2))) (ds := []) #[false, false, false, false, false, false, false, false, false, false, false, false, false, false, false, false] (by kernel_rfl) rfl rfl ⟨(blk_cell BK146.out 0).trans rfl, (blk_cell BK146.out 1).trans rfl, (blk_cell BK146.out 2).trans rfl, (blk_cell BK146.out 3).trans rfl, ((HB.out.cell (World.block_lt_of_cell? w _ hw147_0)).trans hw147_0), ((HB.out.cell (World.block_lt_of_cell? w _ hw148_0)).trans hw148_0)⟩ (fun hHeld => ?_); refine with_tabW swageref08_Check.tab6 swageref08_Check.bits6 (fun HT_ HW_ => ?_)
                    generalize wr.drew = w23 at BK146 HB hx147_0 hx148_0 hHeld ⊢
                    refine pure_ (i := 0) (N := some 46) (v := ?_) (a' := ?_) #[true, false, false, false, false, false, false, false, false, false, false, false, false, false, false, false] rfl rfl (any_of HT_.out (by kernel_rfl)) (fun _ _ _ h => h) (Or.inl ⟨by rfl, ?_⟩) ?_ ?_
                    rotate_left
                    · intro w'
                      go_simp
                      with_reducible rfl
                    rotate_left
                    · simp only [Act.put, List.setIfInBounds_toArray, List.set_cons_zero, List.set_cons_succ, i64_w, i32_w]
                      rfl
                    refine pure_ (i := 2) (N := some 48) (v := ?_) (a' := ?_) #[true, false, true, false, false, false, false, false, false, false, false, false, false, false, false, false] rfl rfl (any_of HT_.out (by kernel_rfl)) (fun _ _ _ h => h) (Or.inl ⟨by rfl, ?_⟩) ?_ ?_
                    rotate_left
                    · intro w'
                      go_simp
                      with_reducible rfl
                    rotate_left
                    · simp only [Act.put, List.setIfInBounds_toArray, List.set_cons_zero, List.set_cons_succ, i64_w, i32_w]
                      rfl
                    refine take_ (i := 1) (N := some 47) (v := ?_) (a' := ?_) #[true, true, true, false, false, false, false, false, false, false, false, false, false, false, false, false] rfl rfl (take_ofW HT_.out HW_.out (by kernel_rfl)) (fun _ _ _ h => h) (Or.inl ⟨by rfl, ?_⟩) hHeld ?_ ?_
                    rotate_left
                    · rintro w' ⟨s0, s1, s2, s3, s4, s5⟩
                      go_simp
                      with_reducible rfl
                    rotate_left
                    · simp only [Act.put, List.setIfInBounds_toArray, List.set_cons_zero, List.set_cons_succ, i64_w, i32_w]
                      rfl
                    refine pure_ (i := 3) (N := some 49) (v := ?_) (a' := ?_) #[true, true, true, true, false, false, false, false, false, false, false, false, false, false, false, false] rfl rfl (any_of HT_.out (by kernel_rfl)) (fun _ _ _ h => h) (Or.inl ⟨by rfl, ?_⟩) ?_ ?_
                    rotate_left
                    · intro w'
                      go_simp
                      with_reducible rfl
                    rotate_left
                    · simp only [Act.put, List.setIfInBounds_toArray, List.set_cons_zero, List.set_cons_succ, i64_w, i32_w]
                      rfl
                    refine take_ (i := 4) (N := some 50) (v := ?_) (a' := ?_) #[true, true, true, true, true, false, false, false, false, false, false, false, false, false, false, false] rfl rfl (take_ofW HT_.out HW_.out (by kernel_rfl)) (fun _ _ _ h => h) (Or.inl ⟨by rfl, ?_⟩) hHeld ?_ ?_
                    rotate_left
                    · rintro w' ⟨s0, s1, s2, s3, s4, s5⟩
                      go_simp
                      with_reducible rfl
                    rotate_left
                    · simp only [Act.put, List.setIfInBounds_toArray, List.set_cons_zero, List.set_cons_succ, i64_w, i32_w]
                      rfl
                    refine pure_ (i := 5) (N := some 51) (v := ?_) (a' := ?_) #[true, true, true, true, true, true, false, false, false, false, false, false, false, false, false, false] rfl rfl (any_of HT_.out (by kernel_rfl)) (fun _ _ _ h => h) (Or.inl ⟨by rfl, ?_⟩) ?_ ?_
                    rotate_left
                    · intro w'
                      go_simp
                      with_reducible rfl
                    rotate_left
                    · simp only [Act.put, List.setIfInBounds_toArray, List.set_cons_zero, List.set_cons_succ, i64_w, i32_w]
                      rfl
                    refine pure_ (i := 6) (N := some 52) (v := ?_) (a' := ?_) #[true, true, true, true, true, true, true, false, false, false, false, false, false, false, false, false] rfl rfl (any_of HT_.out (by kernel_rfl)) (fun _ _ _ h => h) (Or.inl ⟨by rfl, ?_⟩) ?_ ?_
                    rotate_left
                    · intro w'
                      go_simp
                      with_reducible rfl
                    rotate_left
                    · simp only [Act.put, List.setIfInBounds_toArray, List.set_cons_zero, List.set_cons_succ, i64_w, i32_w]
                      rfl
                    refine pure_ (i := 7) (N := some 53) (v := ?_) (a' := ?_) #[true, true, true, true, true, true, true, true, false, false, false, false, false, false, false, false] rfl rfl (any_of HT_.out (by kernel_rfl)) (fun _ _ _ h => h) (Or.inl ⟨by rfl, ?_⟩) ?_ ?_
                    rotate_left
                    · intro w'
                      go_simp
                      with_reducible rfl
                    rotate_left
                    · simp only [Act.put, List.setIfInBounds_toArray, List.set_cons_zero, List.set_cons_succ, i64_w, i32_w]
                      rfl
                    refine pure_ (i := 9) (N := some 55) (v := ?_) (a' := ?_) #[true, true, true, true, true, true, true, true, false, true, false, false, false, false, false, false] rfl rfl (any_of HT_.out (by kernel_rfl)) (fun _ _ _ h => h) (Or.inl ⟨by rfl, ?_⟩) ?_ ?_
                    rotate_left
                    · intro w'
                      go_simp
                      with_reducible rfl
                    rotate_left
                    · simp only [Act.put, List.setIfInBounds_toArray, List.set_cons_zero, List.set_cons_succ, i64_w, i32_w]
                      rfl
                    refine pure_ (i := 12) (N := some 58) (v := ?_) (a' := ?_) #[true, true, true, true, true, true, true, true, false, true, false, false, true, false, false, false] rfl rfl (any_of HT_.out (by kernel_rfl)) (fun _ _ _ h => h) (Or.inl ⟨by rfl, ?_⟩) ?_ ?_
                    rotate_left
                    · intro w'
                      go_simp
                      with_reducible rfl
                    rotate_left
                    · simp only [Act.put, List.setIfInBounds_toArray, List.set_cons_zero, List.set_cons_succ, i64_w, i32_w]
                      rfl
                    refine take_ (i := 8) (N := some 54) (v := ?_) (a' := ?_) #[true, true, true, true, true, true, true, true, true, true, false, false, true, false, false, false] rfl rfl (take_ofW HT_.out HW_.out (by kernel_rfl)) (fun _ _ _ h => h) (Or.inl ⟨by rfl, ?_⟩) hHeld ?_ ?_
                    rotate_left
                    · rintro w' ⟨s0, s1, s2, s3, s4, s5⟩
                      go_simp
                      with_reducible rfl
                    rotate_left
                    · simp only [Act.put, List.setIfInBounds_toArray, List.set_cons_zero, List.set_cons_succ, i64_w, i32_w]
                      rfl
                    refine pure_ (i := 10) (N := some 56) (v := ?_) (a' := ?_) #[true, true, true, true, true, true, true, true, true, true, true, false, true, false, false, false] rfl rfl (any_of HT_.out (by kernel_rfl)) (fun _ _ _ h => h) (Or.inl ⟨by rfl, ?_⟩) ?_ ?_
                    rotate_left
                    · intro w'
                      go_simp
                      with_reducible rfl
                    rotate_left
                    · simp only [Act.put, List.setIfInBounds_toArray, List.set_cons_zero, List.set_cons_succ, i64_w, i32_w]
                      rfl
                    refine take_ (i := 11) (N := some 57) (v := ?_) (a' := ?_) #[true, true, true, true, true, true, true, true, true, true, true, true, true, false, false, false] rfl rfl (take_ofW HT_.out HW_.out (by kernel_rfl)) (fun _ _ _ h => h) (Or.inl ⟨by rfl, ?_⟩) hHeld ?_ ?_
                    rotate_left
                    · rintro w' ⟨s0, s1, s2, s3, s4, s5⟩
                      go_simp
                      with_reducible rfl
                    rotate_left
                    · simp only [Act.put, List.setIfInBounds_toArray, List.set_cons_zero, List.set_cons_succ, i64_w, i32_w]
                      rfl
                    refine take_ (i := 13) (N := some 59) (v := ?_) (a' := ?_) #[true, true, true, true, true, true, true, true, true, true, true, true, true, true, false, false] rfl rfl (take_ofW HT_.out HW_.out (by kernel_rfl)) (fun _ _ _ h => h) (Or.inl ⟨by rfl, ?_⟩) hHeld ?_ ?_
                    rotate_left
                    · rintro w' ⟨s0, s1, s2, s3, s4, s5⟩
                      go_simp
                      with_reducible rfl
                    rotate_left
                    · simp only [Act.put, List.setIfInBounds_toArray, List.set_cons_zero, List.set_cons_succ, i64_w, i32_w]
                      rfl
                    refine pure_ (i := 14) (N := some 60) (v := ?_) (a' := ?_) #[true, true, true, true, true, true, true, true, true, true, true, true, true, true, true, false] rfl rfl (any_of HT_.out (by kernel_rfl)) (fun _ _ _ h => h) (Or.inl ⟨by rfl, ?_⟩) ?_ ?_
                    rotate_left
                    · intro w'
                      go_simp
                      with_reducible rfl
                    rotate_left
                    · simp only [Act.put, List.setIfInBounds_toArray, List.set_cons_zero, List.set_cons_succ, i64_w, i32_w]
                      rfl
                    refine pure_ (i := 15) (N := some 61) (v := ?_) (a' := ?_) #[true, true, true, true, true, true, true, true, true, true, true, true, true, true, true, true] rfl rfl (any_of HT_.out (by kernel_rfl)) (fun _ _ _ h => h) (Or.inl ⟨by rfl, ?_⟩) ?_ ?_
                    rotate_left
                    · intro w'
                      go_simp
                      with_reducible rfl
                    rotate_left
                    · simp only [Act.put, List.setIfInBounds_toArray, List.set_cons_zero, List.set_cons_succ, i64_w, i32_w]
                      rfl
                    refine done_ (done_of HT_.out (by kernel_rfl)) ?_
                    try go_wp2
                    go_ret2
                    exact ⟨by first | rfl | (simp [errW_none, errW_some] <;> rfl) | (simp [*, errW_none, errW_some] <;> rfl), by repeat (first | (with_reducible first | exact HB.out | apply below_alloc | apply pw_below_drewN | apply below_drew1 | refine below_set ?_ GE146.out) | exact HB.out)⟩
                  · rw [if_neg c21] at H
                    have c21b0 : decide (a0_1 ≤ (rd l0_3 x4_2)) = false := decide_eq_false c21
                    clear c21
                    have H' := Aside0.mk H
                    clear H
                    have hcz24_0 : wr.cell? ⟨gb146, 0, none⟩ = some (.int .i64 a0_0) := (blk_cell BK146.out 0).trans rfl
                    have hcz24_1 : wr.cell? ⟨gb146, 1, none⟩ = some (.int .i64 a0_1) := (blk_cell BK146.out 1).trans rfl
                    have hcz24_2 : wr.cell? ⟨gb146, 2, none⟩ = some (.slice A0_2 l0_2.length c0_2) := (blk_cell BK146.out 2).trans rfl
                    have hcz24_3 : wr.cell? ⟨gb146, 3, none⟩ = some (.slice A0_3 l0_3.length c0_3) := (blk_cell BK146.out 3).trans rfl
                    have hfz24_0 := blk_frozen BK146.out 0
                    have hfz24_1 := blk_frozen BK146.out 1
                    have hfz24_2 := blk_frozen BK146.out 2
                    have hfz24_3 := blk_frozen BK146.out 3
                    try go_wp2
                    have n0_ := Aside0.mk (blk_drew BK146.out)
                    have n1_ := Aside0.mk (below_drew1 HB.out)
                    clear BK146
                    clear HB
                    have BK146 := n0_
                    have HB := n1_
                    clear n0_ n1_
                    have p147 : 0 ≤ (x4_2 : Int) := of_decide_eq_true (by first | (with_reducible assumption) | assumption)
                    have q147 : x4_2 < (l0_3.length : Int) := of_decide_eq_true (by first | (with_reducible assumption) | assumption)
                    obtain ⟨ad147, e147, hx147_0⟩ := Kd.at_int HR0_3.out x4_2 p147 q147
                    have hw147_0 := hx147_0
                    cases e147
                    replace hx147_0 := (HB.out.cell (World.block_lt_of_cell? w _ hx147_0)).trans hx147_0
                    replace p147 := eq_true p147
                    replace q147 := eq_true q147
                    have p148 : 0 ≤ (x4_2 : Int) := of_decide_eq_true (by first | (with_reducible assumption) | assumption)
                    have q148 : x4_2 < (l0_3.length : Int) := of_decide_eq_true (by first | (with_reducible assumption) | assumption)
                    obtain ⟨ad148, e148, hx148_0⟩ := Kd.at_int HR0_3.out x4_2 p148 q148
                    have hw148_0 := hx148_0
                    obtain rfl : ad147 = ad148 := (by injection e148)
                    replace hx148_0 := (HB.out.cell (World.block_lt_of_cell? w _ hx148_0)).trans hx148_0
                    replace p148 := eq_true p148
                    replace q148 := eq_true q148
                    refine start_ (n := 16) (S := fun w' => w'.cell? ⟨gb146, 0, none⟩ = some (.int .i64 a0_0) ∧ w'.cell? ⟨gb146, 1, none⟩ = some (.int .i64 a0_1) ∧ w'.cell? ⟨gb146, 2, none⟩ = some (.slice A0_2 l0_2.length c0_2) ∧ w'.cell? ⟨gb146, 3, none⟩ = some (.slice (some ad147) l0_3.length c0_3) ∧ w'.cell? (ad147.add (x4_2).toNat) = some (.int .i64 (rd l0_3 x4_2)) ∧ w'.cell? (ad147.add (x4_2).toNat) = some (.int .i64 (rd l0_3 x4_2))) (ds := []) #[false, false, false, false, false, false, false, false, false, false, false, false, false, false, false, false] (by kernel_rfl) rfl rfl ⟨(blk_cell BK146.out 0).trans rfl, (blk_cell BK146.out 1).trans rfl, (blk_cell BK146.out 2).trans rfl, (blk_cell BK146.out 3).trans rfl, ((HB.out.cell (World.block_lt_of_cell? w _ hw147_0)).trans hw147_0), ((HB.out.cell (World.block_lt_of_cell? w _ hw148_0)).trans hw148_0)⟩ (fun hHeld => ?_); refine with_tabW swageref08_Check.tab6 swageref08_Check.bits6 (fun HT_ HW_ => ?_)
                    generalize wr.drew = w25 at BK146 HB hx147_0 hx148_0 hHeld ⊢
                    refine pure_ (i := 0) (N := some 46) (v := ?_) (a' := ?_) #[true, false, false, false, false, false, false, false, false, false, false, false, false, false, false, false] rfl rfl (any_of HT_.out (by kernel_rfl)) (fun _ _ _ h => h) (Or.inl ⟨by rfl, ?_⟩) ?_ ?_
                    rotate_left
                    · intro w'
                      go_simp
                      with_reducible rfl
                    rotate_left
                    · simp only [Act.put, List.setIfInBounds_toArray, List.set_cons_zero, List.set_cons_succ, i64_w, i32_w]
                      rfl
                    refine pure_ (i := 2) (N := some 48) (v := ?_) (a' := ?_) #[true, false, true, false, false, false, false, false, false, false, false, false, false, false, false, false] rfl rfl (any_of HT_.out (by kernel_rfl)) (fun _ _ _ h => h) (Or.inl ⟨by rfl, ?_⟩) ?_ ?_
                    rotate_left
                    · intro w'
                      go_simp
                      with_reducible rfl
                    rotate_left
                    · simp only [Act.put, List.setIfInBounds_toArray, List.set_cons_zero, List.set_cons_succ, i64_w, i32_w]
                      rfl
                    refine take_ (i := 1) (N := some 47) (v := ?_) (a' := ?_) #[true, true, true, false, false, false, false, false, false, false, false, false, false, false, false, false] rfl rfl (take_ofW HT_.out HW_.out (by kernel_rfl)) (fun _ _ _ h => h) (Or.inl ⟨by rfl, ?_⟩) hHeld ?_ ?_
                    rotate_left
                    · rintro w' ⟨s0, s1, s2, s3, s4, s5⟩
                      go_simp
                      with_reducible rfl
                    rotate_left
                    · simp only [Act.put, List.setIfInBounds_toArray, List.set_cons_zero, List.set_cons_succ, i64_w, i32_w]
                      rfl
                    refine pure_ (i := 3) (N := some 49) (v := ?_) (a' := ?_) #[true, true, true, true, false, false, false, false, false, false, false, false, false, false, false, false] rfl rfl (any_of HT_.out (by kernel_rfl)) (fun _ _ _ h => h) (Or.inl ⟨by rfl, ?_⟩) ?_ ?_
                    rotate_left
                    · intro w'
                      go_simp
                      with_reducible rfl
                    rotate_left
                    · simp only [Act.put, List.setIfInBounds_toArray, List.set_cons_zero, List.set_cons_succ, i64_w, i32_w]
                      rfl
                    refine take_ (i := 4) (N := some 50) (v := ?_) (a' := ?_) #[true, true, true, true, true, false, false, false, false, false, false, false, false, false, false, false] rfl rfl (take_ofW HT_.out HW_.out (by kernel_rfl)) (fun _ _ _ h => h) (Or.inl ⟨by rfl, ?_⟩) hHeld ?_ ?_
                    rotate_left
                    · rintro w' ⟨s0, s1, s2, s3, s4, s5⟩
                      go_simp
                      with_reducible rfl
                    rotate_left
                    · simp only [Act.put, List.setIfInBounds_toArray, List.set_cons_zero, List.set_cons_succ, i64_w, i32_w]
                      rfl
                    refine pure_ (i := 5) (N := some 51) (v := ?_) (a' := ?_) #[true, true, true, true, true, true, false, false, false, false, false, false, false, false, false, false] rfl rfl (any_of HT_.out (by kernel_rfl)) (fun _ _ _ h => h) (Or.inl ⟨by rfl, ?_⟩) ?_ ?_
                    rotate_left
                    · intro w'
                      go_simp
                      with_reducible rfl
                    rotate_left
                    · simp only [Act.put, List.setIfInBounds_toArray, List.set_cons_zero, List.set_cons_succ, i64_w, i32_w]
                      rfl
                    refine pure_ (i := 6) (N := some 52) (v := ?_) (a' := ?_) #[true, true, true, true, true, true, true, false, false, false, false, false, false, false, false, false] rfl rfl (any_of HT_.out (by kernel_rfl)) (fun _ _ _ h => h) (Or.inl ⟨by rfl, ?_⟩) ?_ ?_
                    rotate_left
                    · intro w'
                      go_simp
                      with_reducible rfl
                    rotate_left
                    · simp only [Act.put, List.setIfInBounds_toArray, List.set_cons_zero, List.set_cons_succ, i64_w, i32_w]
                      rfl
                    refine pure_ (i := 7) (N := some 53) (v := ?_) (a' := ?_) #[true, true, true, true, true, true, true, true, false, false, false, false, false, false, false, false] rfl rfl (any_of HT_.out (by kernel_rfl)) (fun _ _ _ h => h) (Or.inl ⟨by rfl, ?_⟩) ?_ ?_
                    rotate_left
                    · intro w'
                      go_simp
                      with_reducible rfl
                    rotate_left
                    · simp only [Act.put, List.setIfInBounds_toArray, List.set_cons_zero, List.set_cons_succ, i64_w, i32_w]
                      rfl
                    refine pure_ (i := 9) (N := some 55) (v := ?_) (a' := ?_) #[true, true, true, true, true, true, true, true, false, true, false, false, false, false, false, false] rfl rfl (any_of HT_.out (by kernel_rfl)) (fun _ _ _ h => h) (Or.inl ⟨by rfl, ?_⟩) ?_ ?_
                    rotate_left
                    · intro w'
                      go_simp
                      with_reducible rfl
                    rotate_left
                    · simp only [Act.put, List.setIfInBounds_toArray, List.set_cons_zero, List.set_cons_succ, i64_w, i32_w]
                      rfl
                    refine pure_ (i := 12) (N := some 58) (v := ?_) (a' := ?_) #[true, true, true, true, true, true, true, true, false, true, false, false, true, false, false, false] rfl rfl (any_of HT_.out (by kernel_rfl)) (fun _ _ _ h => h) (Or.inl ⟨by rfl, ?_⟩) ?_ ?_
                    rotate_left
                    · intro w'
                      go_simp
                      with_reducible rfl
                    rotate_left
                    · simp only [Act.put, List.setIfInBounds_toArray, List.set_cons_zero, List.set_cons_succ, i64_w, i32_w]
                      rfl
                    refine take_ (i := 8) (N := some 54) (v := ?_) (a' := ?_) #[true, true, true, true, true, true, true, true, true, true, false, false, true, false, false, false] rfl rfl (take_ofW HT_.out HW_.out (by kernel_rfl)) (fun _ _ _ h => h) (Or.inl ⟨by rfl, ?_⟩) hHeld ?_ ?_
                    rotate_left
                    · rintro w' ⟨s0, s1, s2, s3, s4, s5⟩
                      go_simp
                      with_reducible rfl
                    rotate_left
                    · simp only [Act.put, List.setIfInBounds_toArray, List.set_cons_zero, List.set_cons_succ, i64_w, i32_w]
                      rfl
                    refine pure_ (i := 10) (N := some 56) (v := ?_) (a' := ?_) #[true, true, true, true, true, true, true, true, true, true, true, false, true, false, false, false] rfl rfl (any_of HT_.out (by kernel_rfl)) (fun _ _ _ h => h) (Or.inl ⟨by rfl, ?_⟩) ?_ ?_
                    rotate_left
                    · intro w'
                      go_simp
                      with_reducible rfl
                    rotate_left
                    · simp only [Act.put, List.setIfInBounds_toArray, List.set_cons_zero, List.set_cons_succ, i64_w, i32_w]
                      rfl
                    refine take_ (i := 11) (N := some 57) (v := ?_) (a' := ?_) #[true, true, true, true, true, true, true, true, true, true, true, true, true, false, false, false] rfl rfl (take_ofW HT_.out HW_.out (by kernel_rfl)) (fun _ _ _ h => h) (Or.inl ⟨by rfl, ?_⟩) hHeld ?_ ?_
                    rotate_left
                    · rintro w' ⟨s0, s1, s2, s3, s4, s5⟩
                      go_simp
                      with_reducible rfl
                    rotate_left
                    · simp only [Act.put, List.setIfInBounds_toArray, List.set_cons_zero, List.set_cons_succ, i64_w, i32_w]
                      rfl
                    refine take_ (i := 13) (N := some 59) (v := ?_) (a' := ?_) #[true, true, true, true, true, true, true, true, true, true, true, true, true, true, false, false] rfl rfl (take_ofW HT_.out HW_.out (by kernel_rfl)) (fun _ _ _ h => h) (Or.inl ⟨by rfl, ?_⟩) hHeld ?_ ?_
                    rotate_left
                    · rintro w' ⟨s0, s1, s2, s3, s4, s5⟩
                      go_simp
                      with_reducible rfl
                    rotate_left
                    · simp only [Act.put, List.setIfInBounds_toArray, List.set_cons_zero, List.set_cons_succ, i64_w, i32_w]
                      rfl
                    refine pure_ (i := 14) (N := some 60) (v := ?_) (a' := ?_) #[true, true, true, true, true, true, true, true, true, true, true, true, true, true, true, false] rfl rfl (any_of HT_.out (by kernel_rfl)) (fun _ _ _ h => h) (Or.inl ⟨by rfl, ?_⟩) ?_ ?_
                    rotate_left
                    · intro w'
                      go_simp
                      with_reducible rfl
                    rotate_left
                    · simp only [Act.put, List.setIfInBounds_toArray, List.set_cons_zero, List.set_cons_succ, i64_w, i32_w]
                      rfl
                    refine pure_ (i := 15) (N := some 61) (v := ?_) (a' := ?_) #[true, true, true, true, true, true, true, true, true, true, true, true, true, true, true, true] rfl rfl (any_of HT_.out (by kernel_rfl)) (fun _ _ _ h => h) (Or.inl ⟨by rfl, ?_⟩) ?_ ?_
                    rotate_left
                    · intro w'
                      go_simp
                      with_reducible rfl
                    rotate_left
                    · simp only [Act.put, List.setIfInBounds_toArray, List.set_cons_zero, List.set_cons_succ, i64_w, i32_w]
                      rfl
                    refine done_ (done_of HT_.out (by kernel_rfl)) ?_
                    try go_wp2
                    go_roundg k2
                    case measure => have := HJ1.out; have := HK2.out; omega
                    case rel => exact ⟨(wrap64 (x4_2 + 1)), (by first | rfl | (simp; done) | (simp [*]; done)), H', ⟨by have := HJ1.out; have := HK2.out; omega⟩, ⟨by (with_reducible repeat (first | refine blk_drewN ?_ _ | refine blk_drew ?_ | refine blk_alloc ?_ _)); exact BK146.out⟩, ⟨by repeat (first | (with_reducible first | exact HB.out | apply below_alloc | apply pw_below_drewN | apply below_drew1 | refine below_set ?_ GE146.out) | exact HB.out)⟩⟩
              · rw [if_neg c17] at H
                exact absurd H (by simp)
            · rw [if_neg c16] at H
              have c16b0 : decide (x4_2 < (l0_3.length : Int)) = false := decide_eq_false c16
              clear c16
              have H' := Aside0.mk H
              clear H
              have hcz26_0 : wr.cell? ⟨gb146, 0, none⟩ = some (.int .i64 a0_0) := (blk_cell BK146.out 0).trans rfl
              have hcz26_1 : wr.cell? ⟨gb146, 1, none⟩ = some (.int .i64 a0_1) := (blk_cell BK146.out 1).trans rfl
              have hcz26_2 : wr.cell? ⟨gb146, 2, none⟩ = some (.slice A0_2 l0_2.length c0_2) := (blk_cell BK146.out 2).trans rfl
              have hcz26_3 : wr.cell? ⟨gb146, 3, none⟩ = some (.slice A0_3 l0_3.length c0_3) := (blk_cell BK146.out 3).trans rfl
              have hfz26_0 := blk_frozen BK146.out 0
              have hfz26_1 := blk_frozen BK146.out 1
              have hfz26_2 := blk_frozen BK146.out 2
              have hfz26_3 := blk_frozen BK146.out 3
              go_wp2
              go_loopg [5] k2 (fun kq v5 w' => ∃ (x5_3 : Int), v5 = .int .i64 x5_3 ∧ Aside0 (swageref08_Check.l1 kq x5_3 a0_0 a0_1 l0_2 l0_3 = some (r1, r2)) ∧ Aside0 (kq ≤ k2) ∧ Aside0 (w'.heap[gb146]? = some (.cells #[.int .i64 a0_0, .int .i64 a0_1, (.slice A0_2 l0_2.length c0_2), (.slice A0_3 l0_3.length c0_3)] 25 (0, 0))) ∧ Aside0 (Below w.heap.size w w'))
              case atStart => exact ⟨(0), (by first | rfl | (simp; done) | (simp [*]; done)), H', ⟨Nat.le_refl _⟩, ⟨by (with_reducible repeat (first | refine blk_drewN ?_ _ | refine blk_drew ?_ | refine blk_alloc ?_ _)); exact BK146.out⟩, ⟨by repeat (first | (with_reducible first | exact HB.out | apply below_alloc | apply pw_below_drewN | apply below_drew1 | refine below_set ?_ GE146.out) | exact HB.out)⟩⟩
              case round =>
                clear H'
                try clear c15
                try clear c16
                obtain ⟨x5_3, rfl, HA, HK3, BK146, HB⟩ := hrel
                cases gk with
                | zero => exact absurd HA.out (by simp [swageref08_Check.l1])
                | succ k3 =>
                  have H := HA.out
                  clear HA
                  simp only [swageref08_Check.l1] at H
                  by_cases c27 : x5_3 < (l0_2.length : Int)
                  · rw [if_pos c27] at H
                    have c27b0 : decide (x5_3 < (l0_2.length : Int)) = true := decide_eq_true c27
                    clear c27
                    by_cases c28 : 0 ≤ x5_3
                    · rw [if_pos c28] at H
                      have c28b0 : decide (0 ≤ x5_3) = true := decide_eq_true c28
                      clear c28
                      replace H := Option.bind_eq_some_iff.mp H
                      obtain ⟨t150, A290, H⟩ := H
                      replace H : (if t150 = true then (swageref08_Check.l1 k3 (wrap64 (x5_3 + 1)) a0_0 a0_1 l0_2 l0_3) else (some (x5_3, true))) = some (r1, r2) := H
                      have A29 := Aside0.mk A290
                      clear A290
                      by_cases c30 : t150 = true
                      · subst c30
                        have H1 : (swageref08_Check.l1 k3 (wrap64 (x5_3 + 1)) a0_0 a0_1 l0_2 l0_3) = some (r1, r2) := by rw [if_pos rfl] at H; exact H
                        clear H
                        have H := H1
                        clear H1
                        have H' := Aside0.mk H
                        clear H
                        have hcz31_0 : wr.cell? ⟨gb146, 0, none⟩ = some (.int .i64 a0_0) := (blk_cell BK146.out 0).trans rfl
                        have hcz31_1 : wr.cell? ⟨gb146, 1, none⟩ = some (.int .i64 a0_1) := (blk_cell BK146.out 1).trans rfl
                        have hcz31_2 : wr.cell? ⟨gb146, 2, none⟩ = some (.slice A0_2 l0_2.length c0_2) := (blk_cell BK146.out 2).trans rfl
                        have hcz31_3 : wr.cell? ⟨gb146, 3, none⟩ = some (.slice A0_3 l0_3.length c0_3) := (blk_cell BK146.out 3).trans rfl
                        have hfz31_0 := blk_frozen BK146.out 0
                        have hfz31_1 := blk_frozen BK146.out 1
                        have hfz31_2 := blk_frozen BK146.out 2
                        have hfz31_3 := blk_frozen BK146.out 3
                        try go_wp2
                        have n0_ := Aside0.mk (blk_drew BK146.out)
                        have n1_ := Aside0.mk (below_drew1 HB.out)
                        clear BK146
                        clear HB
                        have BK146 := n0_
                        have HB := n1_
                        clear n0_ n1_
                        have p149 : 0 ≤ (x5_3 : Int) := of_decide_eq_true (by first | (with_reducible assumption) | assumption)
                        have q149 : x5_3 < (l0_2.length : Int) := of_decide_eq_true (by first | (with_reducible assumption) | assumption)
                        obtain ⟨ad149, e149, hx149_0, hx149_1, hx149_2, hx149_3, hx149_4⟩ := at_T37 HR0_2.out x5_3 p149 q149
                        have hw149_4 := hx149_4
                        have hw149_3 := hx149_3
                        have hw149_2 := hx149_2
                        have hw149_1 := hx149_1
                        have hw149_0 := hx149_0
                        cases e149
                        replace hx149_0 := (HB.out.cell (World.block_lt_of_cell? w _ hx149_0)).trans hx149_0
                        replace hx149_1 := (HB.out.cell (World.block_lt_of_cell? w _ hx149_1)).trans hx149_1
                        replace hx149_2 := (HB.out.cell (World.block_lt_of_cell? w _ hx149_2)).trans hx149_2
                        replace hx149_3 := (HB.out.cell (World.block_lt_of_cell? w _ hx149_3)).trans hx149_3
                        replace hx149_4 := (HB.out.cell (World.block_lt_of_cell? w _ hx149_4)).trans hx149_4
                        replace p149 := eq_true p149
                        replace q149 := eq_true q149
                        refine start_ (n := 9) (S := fun w' => w'.cell? ⟨gb146, 0, none⟩ = some (.int .i64 a0_0) ∧ w'.cell? ⟨gb146, 1, none⟩ = some (.int .i64 a0_1) ∧ w'.cell? ⟨gb146, 2, none⟩ = some (.slice (some ad149) l0_2.length c0_2) ∧ w'.cell? ⟨gb146, 3, none⟩ = some (.slice A0_3 l0_3.length c0_3) ∧ w'.cell? (ad149.add ((x5_3).toNat * 5)) = some (.int .i64 ((rd_T37 l0_2 x5_3).f0)) ∧ w'.cell? ⟨(ad149.add ((x5_3).toNat * 5)).block, (ad149.add ((x5_3).toNat * 5)).off + 1, none⟩ = some (.int .i64 ((rd_T37 l0_2 x5_3).f1)) ∧ w'.cell? ⟨(ad149.add ((x5_3).toNat * 5)).block, (ad149.add ((x5_3).toNat * 5)).off + 2, none⟩ = some (.int .i64 ((rd_T37 l0_2 x5_3).f2)) ∧ w'.cell? ⟨(ad149.add ((x5_3).toNat * 5)).block, (ad149.add ((x5_3).toNat * 5)).off + 3, none⟩ = some (.int .i64 ((rd_T37 l0_2 x5_3).f3)) ∧ w'.cell? ⟨(ad149.add ((x5_3).toNat * 5)).block, (ad149.add ((x5_3).toNat * 5)).off + 4, none⟩ = some (.int .i64 ((rd_T37 l0_2 x5_3).f4))) (ds := []) #[false, false, false, false, false, false, false, false, false] (by kernel_rfl) rfl rfl ⟨(blk_cell BK146.out 0).trans rfl, (blk_cell BK146.out 1).trans rfl, (blk_cell BK146.out 2).trans rfl, (blk_cell BK146.out 3).trans rfl, ((HB.out.cell (World.block_lt_of_cell? w _ hw149_0)).trans hw149_0), ((HB.out.cell (World.block_lt_of_cell? w _ hw149_1)).trans hw149_1), ((HB.out.cell (World.block_lt_of_cell? w _ hw149_2)).trans hw149_2), ((HB.out.cell (World.block_lt_of_cell? w _ hw149_3)).trans hw149_3), ((HB.out.cell (World.block_lt_of_cell? w _ hw149_4)).trans hw149_4)⟩ (fun hHeld => ?_); refine with_tabW swageref08_Check.tab11 swageref08_Check.bits11 (fun HT_ HW_ => ?_)
                        generalize wr.drew = w32 at BK146 HB hx149_0 hx149_1 hx149_2 hx149_3 hx149_4 hHeld ⊢
                        refine pure_ (i := 0) (N := some 69) (v := ?_) (a' := ?_) #[true, false, false, false, false, false, false, false, false] rfl rfl (any_of HT_.out (by kernel_rfl)) (fun _ _ _ h => h) (Or.inl ⟨by rfl, ?_⟩) ?_ ?_
                        rotate_left
                        · intro w'
                          go_simp
                          with_reducible rfl
                        rotate_left
                        · simp only [Act.put, List.setIfInBounds_toArray, List.set_cons_zero, List.set_cons_succ, i64_w, i32_w]
                          rfl
                        refine pure_ (i := 2) (N := some 71) (v := ?_) (a' := ?_) #[true, false, true, false, false, false, false, false, false] rfl rfl (any_of HT_.out (by kernel_rfl)) (fun _ _ _ h => h) (Or.inl ⟨by rfl, ?_⟩) ?_ ?_
                        rotate_left
                        · intro w'
                          go_simp
                          with_reducible rfl
                        rotate_left
                        · simp only [Act.put, List.setIfInBounds_toArray, List.set_cons_zero, List.set_cons_succ, i64_w, i32_w]
                          rfl
                        refine pure_ (i := 5) (N := some 74) (v := ?_) (a' := ?_) #[true, false, true, false, false, true, false, false, false] rfl rfl (any_of HT_.out (by kernel_rfl)) (fun _ _ _ h => h) (Or.inl ⟨by rfl, ?_⟩) ?_ ?_
                        rotate_left
                        · intro w'
                          go_simp
                          with_reducible rfl
                        rotate_left
                        · simp only [Act.put, List.setIfInBounds_toArray, List.set_cons_zero, List.set_cons_succ, i64_w, i32_w]
                          rfl
                        refine take_ (i := 1) (N := some 70) (v := ?_) (a' := ?_) #[true, true, true, false, false, true, false, false, false] rfl rfl (take_ofW HT_.out HW_.out (by kernel_rfl)) (fun _ _ _ h => h) (Or.inl ⟨by rfl, ?_⟩) hHeld ?_ ?_
                        rotate_left
                        · rintro w' ⟨s0, s1, s2, s3, s4, s5, s6, s7, s8⟩
                          go_simp
                          with_reducible rfl
                        rotate_left
                        · simp only [Act.put, List.setIfInBounds_toArray, List.set_cons_zero, List.set_cons_succ, i64_w, i32_w]
                          rfl
                        refine pure_ (i := 3) (N := some 72) (v := ?_) (a' := ?_) #[true, true, true, true, false, true, false, false, false] rfl rfl (any_of HT_.out (by kernel_rfl)) (fun _ _ _ h => h) (Or.inl ⟨by rfl, ?_⟩) ?_ ?_
                        rotate_left
                        · intro w'
                          go_simp
                          with_reducible rfl
                        rotate_left
                        · simp only [Act.put, List.setIfInBounds_toArray, List.set_cons_zero, List.set_cons_succ, i64_w, i32_w]
                          rfl
                        refine take_ (i := 4) (N := some 73) (v := ?_) (a' := ?_) #[true, true, true, true, true, true, false, false, false] rfl rfl (take_ofW HT_.out HW_.out (by kernel_rfl)) (fun _ _ _ h => h) (Or.inl ⟨by rfl, ?_⟩) hHeld ?_ ?_
                        rotate_left
                        · rintro w' ⟨s0, s1, s2, s3, s4, s5, s6, s7, s8⟩
                          go_simp
                          with_reducible rfl
                        rotate_left
                        · simp only [Act.put, List.setIfInBounds_toArray, List.set_cons_zero, List.set_cons_succ, i64_w, i32_w]
                          rfl
                        refine take_ (i := 6) (N := some 75) (v := ?_) (a' := ?_) #[true, true, true, true, true, true, true, false, false] rfl rfl (take_ofW HT_.out HW_.out (by kernel_rfl)) (fun _ _ _ h => h) (Or.inl ⟨by rfl, ?_⟩) hHeld ?_ ?_
                        rotate_left
                        · rintro w' ⟨s0, s1, s2, s3, s4, s5, s6, s7, s8⟩
                          go_simp
                          with_reducible rfl
                        rotate_left
                        · simp only [Act.put, List.setIfInBounds_toArray, List.set_cons_zero, List.set_cons_succ, i64_w, i32_w]
                          rfl
                        refine one_ (i := 7) (N := some 76) #[true, true, true, true, true, true, true, true, false] rfl rfl (one_of HT_.out (by kernel_rfl)) (by decide) (fun K hK => ?_)
                        refine goes_ Tryd.func35 (by kernel_rfl) rfl #[.agg #[.int .i64 ((rd_T37 l0_2 x5_3).f0), .int .i64 ((rd_T37 l0_2 x5_3).f1), .int .i64 ((rd_T37 l0_2 x5_3).f2), .int .i64 ((rd_T37 l0_2 x5_3).f3), .int .i64 ((rd_T37 l0_2 x5_3).f4)], .int .i64 a0_1] (by rfl) rfl rfl (by (try simp only [List.map_toArray, List.map_cons, List.map_nil]); first | done | rfl | (simp only [List.length_drop, List.length_take]; rfl)) ?_
                        with_reducible refine (swageref08_May.calls k3 ((rd_T37 l0_2 x5_3).f0) ((rd_T37 l0_2 x5_3).f1) ((rd_T37 l0_2 x5_3).f2) ((rd_T37 l0_2 x5_3).f3) ((rd_T37 l0_2 x5_3).f4) a0_1 true _ A29.out).mono ?_
                        rintro e w33 ⟨rfl, hb⟩
                        refine ⟨_, rfl, ?_⟩
                        have n0_ := Aside0.mk (blk_below (g := gb146) (o := .cells #[.int .i64 a0_0, .int .i64 a0_1, .slice (some ad149) l0_2.length c0_2, .slice A0_3 l0_3.length c0_3] 25 (0, 0)) (by (with_reducible repeat (first | refine blk_drewN ?_ _ | refine blk_drew ?_ | refine blk_alloc ?_ _)); exact BK146.out) hb)
                        have n1_ := Aside0.mk (below_step (by repeat (first | (with_reducible first | exact HB.out | apply below_alloc | apply pw_below_drewN | apply below_drew1 | refine below_set ?_ GE146.out) | exact HB.out)) hb)
                        clear BK146
                        clear HB
                        have BK146 := n0_
                        have HB := n1_
                        clear n0_ n1_
                        (try clear hb)
                        (try clear hb2)
                        (try clear hk)
                        (try clear hi)
                        refine hK.out _ _ ⟨(blk_cell BK146.out 0).trans rfl, (blk_cell BK146.out 1).trans rfl, (blk_cell BK146.out 2).trans rfl, (blk_cell BK146.out 3).trans rfl, ((HB.out.cell (World.block_lt_of_cell? w _ hw149_0)).trans hw149_0), ((HB.out.cell (World.block_lt_of_cell? w _ hw149_1)).trans hw149_1), ((HB.out.cell (World.block_lt_of_cell? w _ hw149_2)).trans hw149_2), ((HB.out.cell (World.block_lt_of_cell? w _ hw149_3)).trans hw149_3), ((HB.out.cell (World.block_lt_of_cell? w _ hw149_4)).trans hw149_4)⟩ (fun hHeld => ?_)
                        clear hK K
                        refine norm_ (a' := ?_) ?_ ?_
                        rotate_left
                        · show Act.put _ (some 76) _ = _
                          simp only [Act.put, List.setIfInBounds_toArray, List.set_cons_zero, List.set_cons_succ, i64_w, i32_w]
                          rfl
                        refine pure_ (i := 8) (N := some 77) (v := ?_) (a' := ?_) #[true, true, true, true, true, true, true, true, true] rfl rfl (any_of HT_.out (by kernel_rfl)) (fun _ _ _ h => h) (Or.inl ⟨by rfl, ?_⟩) ?_ ?_
                        rotate_left
                        · intro w'
                          go_simp
                          with_reducible rfl
                        rotate_left
                        · simp only [Act.put, List.setIfInBounds_toArray, List.set_cons_zero, List.set_cons_succ, i64_w, i32_w]
                          rfl
                        refine done_ (done_of HT_.out (by kernel_rfl)) ?_
                        try go_wp2
                        go_roundg k3
                        case measure => have := HJ1.out; have := HK2.out; have := HK3.out; omega
                        case rel => exact ⟨(wrap64 (x5_3 + 1)), (by first | rfl | (simp; done) | (simp [*]; done)), H', ⟨by have := HJ1.out; have := HK2.out; have := HK3.out; omega⟩, ⟨by (with_reducible repeat (first | refine blk_drewN ?_ _ | refine blk_drew ?_ | refine blk_alloc ?_ _)); exact BK146.out⟩, ⟨by repeat (first | (with_reducible first | exact HB.out | apply below_alloc | apply pw_below_drewN | apply below_drew1 | refine below_set ?_ GE146.out) | exact HB.out)⟩⟩
                      · replace c30 := Bool.eq_false_iff.mpr c30
                        subst c30
                        have H1 : (some (x5_3, true)) = some (r1, r2) := by rw [if_neg (show ¬ (false = true) by decide)] at H; exact H
                        clear H
                        have H := H1
                        clear H1
                        simp only [Option.some.injEq, Prod.mk.injEq] at H
                        obtain ⟨rfl, rfl⟩ := H
                        have hcz34_0 : wr.cell? ⟨gb146, 0, none⟩ = some (.int .i64 a0_0) := (blk_cell BK146.out 0).trans rfl
                        have hcz34_1 : wr.cell? ⟨gb146, 1, none⟩ = some (.int .i64 a0_1) := (blk_cell BK146.out 1).trans rfl
                        have hcz34_2 : wr.cell? ⟨gb146, 2, none⟩ = some (.slice A0_2 l0_2.length c0_2) := (blk_cell BK146.out 2).trans rfl
                        have hcz34_3 : wr.cell? ⟨gb146, 3, none⟩ = some (.slice A0_3 l0_3.length c0_3) := (blk_cell BK146.out 3).trans rfl
                        have hfz34_0 := blk_frozen BK146.out 0
                        have hfz34_1 := blk_frozen BK146.out 1
                        have hfz34_2 := blk_frozen BK146.out 2
                        have hfz34_3 := blk_frozen BK146.out 3
                        try go_wp2
                        have n0_ := Aside0.mk (blk_drew BK146.out)
                        have n1_ := Aside0.mk (below_drew1 HB.out)
                        clear BK146
                        clear HB
                        have BK146 := n0_
                        have HB := n1_
                        clear n0_ n1_
                        have p149 : 0 ≤ (x5_3 : Int) := of_decide_eq_true (by first | (with_reducible assumption) | assumption)
                        have q149 : x5_3 < (l0_2.length : Int) := of_decide_eq_true (by first | (with_reducible assumption) | assumption)
                        obtain ⟨ad149, e149, hx149_0, hx149_1, hx149_2, hx149_3, hx149_4⟩ := at_T37 HR0_2.out x5_3 p149 q149
                        have hw149_4 := hx149_4
                        have hw149_3 := hx149_3
                        have hw149_2 := hx149_2
                        have hw149_1 := hx149_1
                        have hw149_0 := hx149_0
                        cases e149
                        replace hx149_0 := (HB.out.cell (World.block_lt_of_cell? w _ hx149_0)).trans hx149_0
                        replace hx149_1 := (HB.out.cell (World.block_lt_of_cell? w _ hx149_1)).trans hx149_1
                        replace hx149_2 := (HB.out.cell (World.block_lt_of_cell? w _ hx149_2)).trans hx149_2
                        replace hx149_3 := (HB.out.cell (World.block_lt_of_cell? w _ hx149_3)).trans hx149_3
                        replace hx149_4 := (HB.out.cell (World.block_lt_of_cell? w _ hx149_4)).trans hx149_4
                        replace p149 := eq_true p149
                        replace q149 := eq_true q149
                        refine start_ (n := 9) (S := fun w' => w'.cell? ⟨gb146, 0, none⟩ = some (.int .i64 a0_0) ∧ w'.cell? ⟨gb146, 1, none⟩ = some (.int .i64 a0_1) ∧ w'.cell? ⟨gb146, 2, none⟩ = some (.slice (some ad149) l0_2.length c0_2) ∧ w'.cell? ⟨gb146, 3, none⟩ = some (.slice A0_3 l0_3.length c0_3) ∧ w'.cell? (ad149.add ((x5_3).toNat * 5)) = some (.int .i64 ((rd_T37 l0_2 x5_3).f0)) ∧ w'.cell? ⟨(ad149.add ((x5_3).toNat * 5)).block, (ad149.add ((x5_3).toNat * 5)).off + 1, none⟩ = some (.int .i64 ((rd_T37 l0_2 x5_3).f1)) ∧ w'.cell? ⟨(ad149.add ((x5_3).toNat * 5)).block, (ad149.add ((x5_3).toNat * 5)).off + 2, none⟩ = some (.int .i64 ((rd_T37 l0_2 x5_3).f2)) ∧ w'.cell? ⟨(ad149.add ((x5_3).toNat * 5)).block, (ad149.add ((x5_3).toNat * 5)).off + 3, none⟩ = some (.int .i64 ((rd_T37 l0_2 x5_3).f3)) ∧ w'.cell? ⟨(ad149.add ((x5_3).toNat * 5)).block, (ad149.add ((x5_3).toNat * 5)).off + 4, none⟩ = some (.int .i64 ((rd_T37 l0_2 x5_3).f4))) (ds := []) #[false, false, false, false, false, false, false, false, false] (by kernel_rfl) rfl rfl ⟨(blk_cell BK146.out 0).trans rfl, (blk_cell BK146.out 1).trans rfl, (blk_cell BK146.out 2).trans rfl, (blk_cell BK146.out 3).trans rfl, ((HB.out.cell (World.block_lt_of_cell? w _ hw149_0)).trans hw149_0), ((HB.out.cell (World.block_lt_of_cell? w _ hw149_1)).trans hw149_1), ((HB.out.cell (World.block_lt_of_cell? w _ hw149_2)).trans hw149_2), ((HB.out.cell (World.block_lt_of_cell? w _ hw149_3)).trans hw149_3), ((HB.out.cell (World.block_lt_of_cell? w _ hw149_4)).trans hw149_4)⟩ (fun hHeld => ?_); refine with_tabW swageref08_Check.tab11 swageref08_Check.bits11 (fun HT_ HW_ => ?_)
                        generalize wr.drew = w35 at BK146 HB hx149_0 hx149_1 hx149_2 hx149_3 hx149_4 hHeld ⊢
                        refine pure_ (i := 0) (N := some 69) (v := ?_) (a' := ?_) #[true, false, false, false, false, false, false, false, false] rfl rfl (any_of HT_.out (by kernel_rfl)) (fun _ _ _ h => h) (Or.inl ⟨by rfl, ?_⟩) ?_ ?_
                        rotate_left
                        · intro w'
                          go_simp
                          with_reducible rfl
                        rotate_left
                        · simp only [Act.put, List.setIfInBounds_toArray, List.set_cons_zero, List.set_cons_succ, i64_w, i32_w]
                          rfl
                        refine pure_ (i := 2) (N := some 71) (v := ?_) (a' := ?_) #[true, false, true, false, false, false, false, false, false] rfl rfl (any_of HT_.out (by kernel_rfl)) (fun _ _ _ h => h) (Or.inl ⟨by rfl, ?_⟩) ?_ ?_
                        rotate_left
                        · intro w'
                          go_simp
                          with_reducible rfl
                        rotate_left
                        · simp only [Act.put, List.setIfInBounds_toArray, List.set_cons_zero, List.set_cons_succ, i64_w, i32_w]
                          rfl
                        refine pure_ (i := 5) (N := some 74) (v := ?_) (a' := ?_) #[true, false, true, false, false, true, false, false, false] rfl rfl (any_of HT_.out (by kernel_rfl)) (fun _ _ _ h => h) (Or.inl ⟨by rfl, ?_⟩) ?_ ?_
                        rotate_left
                        · intro w'
                          go_simp
                          with_reducible rfl
                        rotate_left
                        · simp only [Act.put, List.setIfInBounds_toArray, List.set_cons_zero, List.set_cons_succ, i64_w, i32_w]
                          rfl
                        refine take_ (i := 1) (N := some 70) (v := ?_) (a' := ?_) #[true, true, true, false, false, true, false, false, false] rfl rfl (take_ofW HT_.out HW_.out (by kernel_rfl)) (fun _ _ _ h => h) (Or.inl ⟨by rfl, ?_⟩) hHeld ?_ ?_
                        rotate_left
                        · rintro w' ⟨s0, s1, s2, s3, s4, s5, s6, s7, s8⟩
                          go_simp
                          with_reducible rfl
                        rotate_left
                        · simp only [Act.put, List.setIfInBounds_toArray, List.set_cons_zero, List.set_cons_succ, i64_w, i32_w]
                          rfl
                        refine pure_ (i := 3) (N := some 72) (v := ?_) (a' := ?_) #[true, true, true, true, false, true, false, false, false] rfl rfl (any_of HT_.out (by kernel_rfl)) (fun _ _ _ h => h) (Or.inl ⟨by rfl, ?_⟩) ?_ ?_
                        rotate_left
                        · intro w'
                          go_simp
                          with_reducible rfl
                        rotate_left
                        · simp only [Act.put, List.setIfInBounds_toArray, List.set_cons_zero, List.set_cons_succ, i64_w, i32_w]
                          rfl
                        refine take_ (i := 4) (N := some 73) (v := ?_) (a' := ?_) #[true, true, true, true, true, true, false, false, false] rfl rfl (take_ofW HT_.out HW_.out (by kernel_rfl)) (fun _ _ _ h => h) (Or.inl ⟨by rfl, ?_⟩) hHeld ?_ ?_
                        rotate_left
                        · rintro w' ⟨s0, s1, s2, s3, s4, s5, s6, s7, s8⟩
                          go_simp
                          with_reducible rfl
                        rotate_left
                        · simp only [Act.put, List.setIfInBounds_toArray, List.set_cons_zero, List.set_cons_succ, i64_w, i32_w]
                          rfl
                        refine take_ (i := 6) (N := some 75) (v := ?_) (a' := ?_) #[true, true, true, true, true, true, true, false, false] rfl rfl (take_ofW HT_.out HW_.out (by kernel_rfl)) (fun _ _ _ h => h) (Or.inl ⟨by rfl, ?_⟩) hHeld ?_ ?_
                        rotate_left
                        · rintro w' ⟨s0, s1, s2, s3, s4, s5, s6, s7, s8⟩
                          go_simp
                          with_reducible rfl
                        rotate_left
                        · simp only [Act.put, List.setIfInBounds_toArray, List.set_cons_zero, List.set_cons_succ, i64_w, i32_w]
                          rfl
                        refine one_ (i := 7) (N := some 76) #[true, true, true, true, true, true, true, true, false] rfl rfl (one_of HT_.out (by kernel_rfl)) (by decide) (fun K hK => ?_)
                        refine goes_ Tryd.func35 (by kernel_rfl) rfl #[.agg #[.int .i64 ((rd_T37 l0_2 x5_3).f0), .int .i64 ((rd_T37 l0_2 x5_3).f1), .int .i64 ((rd_T37 l0_2 x5_3).f2), .int .i64 ((rd_T37 l0_2 x5_3).f3), .int .i64 ((rd_T37 l0_2 x5_3).f4)], .int .i64 a0_1] (by rfl) rfl rfl (by (try simp only [List.map_toArray, List.map_cons, List.map_nil]); first | done | rfl | (simp only [List.length_drop, List.length_take]; rfl)) ?_
                        with_reducible refine (swageref08_May.calls k3 ((rd_T37 l0_2 x5_3).f0) ((rd_T37 l0_2 x5_3).f1) ((rd_T37 l0_2 x5_3).f2) ((rd_T37 l0_2 x5_3).f3) ((rd_T37 l0_2 x5_3).f4) a0_1 false _ A29.out).mono ?_
                        rintro e w36 ⟨rfl, hb⟩
                        refine ⟨_, rfl, ?_⟩
                        have n0_ := Aside0.mk (blk_below (g := gb146) (o := .cells #[.int .i64 a0_0, .int .i64 a0_1, .slice (some ad149) l0_2.length c0_2, .slice A0_3 l0_3.length c0_3] 25 (0, 0)) (by (with_reducible repeat (first | refine blk_drewN ?_ _ | refine blk_drew ?_ | refine blk_alloc ?_ _)); exact BK146.out) hb)
                        have n1_ := Aside0.mk (below_step (by repeat (first | (with_reducible first | exact HB.out | apply below_alloc | apply pw_below_drewN | apply below_drew1 | refine below_set ?_ GE146.out) | exact HB.out)) hb)
                        clear BK146
                        clear HB
                        have BK146 := n0_
                        have HB := n1_
                        clear n0_ n1_
                        (try clear hb)
                        (try clear hb2)
                        (try clear hk)
                        (try clear hi)
                        refine hK.out _ _ ⟨(blk_cell BK146.out 0).trans rfl, (blk_cell BK146.out 1).trans rfl, (blk_cell BK146.out 2).trans rfl, (blk_cell BK146.out 3).trans rfl, ((HB.out.cell (World.block_lt_of_cell? w _ hw149_0)).trans hw149_0), ((HB.out.cell (World.block_lt_of_cell? w _ hw149_1)).trans hw149_1), ((HB.out.cell (World.block_lt_of_cell? w _ hw149_2)).trans hw149_2), ((HB.out.cell (World.block_lt_of_cell? w _ hw149_3)).trans hw149_3), ((HB.out.cell (World.block_lt_of_cell? w _ hw149_4)).trans hw149_4)⟩ (fun hHeld => ?_)
                        clear hK K
                        refine norm_ (a' := ?_) ?_ ?_
                        rotate_left
                        · show Act.put _ (some 76) _ = _
                          simp only [Act.put, List.setIfInBounds_toArray, List.set_cons_zero, List.set_cons_succ, i64_w, i32_w]
                          rfl
                        refine pure_ (i := 8) (N := some 77) (v := ?_) (a' := ?_) #[true, true, true, true, true, true, true, true, true] rfl rfl (any_of HT_.out (by kernel_rfl)) (fun _ _ _ h => h) (Or.inl ⟨by rfl, ?_⟩) ?_ ?_
                        rotate_left
                        · intro w'
                          go_simp
                          with_reducible rfl
                        rotate_left
                        · simp only [Act.put, List.setIfInBounds_toArray, List.set_cons_zero, List.set_cons_succ, i64_w, i32_w]
                          rfl
                        refine done_ (done_of HT_.out (by kernel_rfl)) ?_
                        try go_wp2
                        go_ret2
                        exact ⟨by first | rfl | (simp [errW_none, errW_some] <;> rfl) | (simp [*, errW_none, errW_some] <;> rfl), by repeat (first | (with_reducible first | exact HB.out | apply below_alloc | apply pw_below_drewN | apply below_drew1 | refine below_set ?_ GE146.out) | exact HB.out)⟩
                    · rw [if_neg c28] at H
                      exact absurd H (by simp)
                  · rw [if_neg c27] at H
                    have c27b0 : decide (x5_3 < (l0_2.length : Int)) = false := decide_eq_false c27
                    clear c27
                    simp only [Option.some.injEq, Prod.mk.injEq] at H
                    obtain ⟨rfl, rfl⟩ := H
                    have hcz37_0 : wr.cell? ⟨gb146, 0, none⟩ = some (.int .i64 a0_0) := (blk_cell BK146.out 0).trans rfl
                    have hcz37_1 : wr.cell? ⟨gb146, 1, none⟩ = some (.int .i64 a0_1) := (blk_cell BK146.out 1).trans rfl
                    have hcz37_2 : wr.cell? ⟨gb146, 2, none⟩ = some (.slice A0_2 l0_2.length c0_2) := (blk_cell BK146.out 2).trans rfl
                    have hcz37_3 : wr.cell? ⟨gb146, 3, none⟩ = some (.slice A0_3 l0_3.length c0_3) := (blk_cell BK146.out 3).trans rfl
                    have hfz37_0 := blk_frozen BK146.out 0
                    have hfz37_1 := blk_frozen BK146.out 1
                    have hfz37_2 := blk_frozen BK146.out 2
                    have hfz37_3 := blk_frozen BK146.out 3
                    go_wp2
                    go_ret2
                    exact ⟨by first | rfl | (simp [errW_none, errW_some] <;> rfl) | (simp [*, errW_none, errW_some] <;> rfl), by repeat (first | (with_reducible first | exact HB.out | apply below_alloc | apply pw_below_drewN | apply below_drew1 | refine below_set ?_ GE146.out) | exact HB.out)⟩

end Go.Proofs.YtkknkdmdglncoaaDoor.XA
end

section
namespace Go.Proofs.YtkknkdmdglncoaaDoor.XA
open Go.RowKit Go.Proofs.YtkknkdmdglncoaaDoorW.PrintWords Go.Proofs.YtkknkdmdglncoaaDoorW.PrintLast Go.Proofs.YtkknkdmdglncoaaDoorW.PrintMore
attribute [local go_sem] max2_int min2_int max_two min_two max_three min_three max_four min_four   -- for this text's walks alone
set_option linter.unusedVariables false
set_option linter.unusedSimpArgs false

/-! ### swagelaw08_ProgChecks: function 3 -/
def swagelaw08_ProgChecks.j0 : Nat → Bool → Int → Int → List (S37) → List Int → Option (Bool)
  | 0, _, _, _, _, _ => none
  | k + 1, x18, x152000, x152001, x152002, x152003 => if x18 = true then (some true) else ((prog_Check.f k x152000 x152001 x152002 x152003).bind fun bt153 => ((swageref08_Check.f k x152000 x152001 x152002 x152003).bind fun bt155 => (if bt155.2 = true then (if bt153.1 = bt155.1 then (if bt153.2 = 80 then ((swagelaw08_live.f k).bind fun t157 => (some t157)) else (some false)) else (some false)) else (if bt153.1 = 0 then (some (bt153.2 == 0)) else (some false)))))
def swagelaw08_ProgChecks.f (k : Nat) (a0_0 : Int) (a0_1 : Int) (l0_2 : List (S37)) (l0_3 : List Int) : Option (Bool) := (swagelaw08_live.f k).bind fun t152 => (if t152 = true then (if (l0_2.length : Int) > 20000 then (swagelaw08_ProgChecks.j0 k true a0_0 a0_1 l0_2 l0_3) else (swagelaw08_ProgChecks.j0 k (decide (20000 < l0_3.length)) a0_0 a0_1 l0_2 l0_3)) else (some false))
set_option maxHeartbeats 8000000 in
set_option maxRecDepth 100000 in
theorem swagelaw08_ProgChecks.calls (k : Nat) (a0_0 : Int) (a0_1 : Int) (A0_2 : Option Addr) (c0_2 : Nat) (l0_2 : List (S37)) (A0_3 : Option Addr) (c0_3 : Nat) (l0_3 : List Int) (r : Bool) (w : World) (hr0_2 : Kd.C k37 w A0_2 l0_2.length l0_2) (hc0_2 : l0_2.length ≤ c0_2) (hr0_3 : Kd.C (Kd.int .i64) w A0_3 l0_3.length l0_3) (hc0_3 : l0_3.length ≤ c0_3) (hT : Aside0 (r = true)) (h : swagelaw08_ProgChecks.f k a0_0 a0_1 l0_2 l0_3 = some r) :
    Calls Tryd.prog 3 #[.agg #[.int .i64 a0_0, .int .i64 a0_1, .slice A0_2 l0_2.length c0_2, .slice A0_3 l0_3.length c0_3]] w fun e w' => e = .returned (.bool r) ∧ Below w.heap.size w w' := by
  have hu25 := Tryd.underlying25
  have HR0_2 := Aside0.mk hr0_2
  have HC0_2 := Aside0.mk hc0_2
  clear hr0_2 hc0_2
  have HR0_3 := Aside0.mk hr0_3
  have HC0_3 := Aside0.mk hc0_3
  clear hr0_3 hc0_3
  have HB := Aside0.mk (Below.refl w.heap.size w)
  have H : ((swagelaw08_live.f k).bind fun t152 => (if t152 = true then (if (l0_2.length : Int) > 20000 then (swagelaw08_ProgChecks.j0 k true a0_0 a0_1 l0_2 l0_3) else (swagelaw08_ProgChecks.j0 k (decide (20000 < l0_3.length)) a0_0 a0_1 l0_2 l0_3)) else (some false))) = some r := h
  clear h
  replace H := Option.bind_eq_some_iff.mp H
  obtain ⟨t152, A20, H⟩ := H
  replace H : (if t152 = true then (if (l0_2.length : Int) > 20000 then (swagelaw08_ProgChecks.j0 k true a0_0 a0_1 l0_2 l0_3) else (swagelaw08_ProgChecks.j0 k (decide (20000 < l0_3.length)) a0_0 a0_1 l0_2 l0_3)) else (some false)) = some r := H
  have A2 := Aside0.mk A20
  clear A20
  by_cases c3 : t152 = true
  · subst c3
    have H1 : (if (l0_2.length : Int) > 20000 then (swagelaw08_ProgChecks.j0 k true a0_0 a0_1 l0_2 l0_3) else (swagelaw08_ProgChecks.j0 k (decide (20000 < l0_3.length)) a0_0 a0_1 l0_2 l0_3)) = some r := by rw [if_pos rfl] at H; exact H
    clear H
    have H := H1
    clear H1
    have HC4 := Aside0.mk H
    clear H
    go_enter Tryd.func3, Tryd.ntmps3
    go_upto_region 3 with (first | ((with_reducible refine gate_dst (N := 1) rfl ?_); (try (refine gate_guard (by rfl) ?_; dsimp only)); refine box_event ?hg (N := 1) ?hd (cs := #[.int .i64 a0_0, .int .i64 a0_1, .slice A0_2 l0_2.length c0_2, .slice A0_3 l0_3.length c0_3]) (t := 25) ?hr ?_; (case hd => rfl); (case hg => rfl); (case hr => first | (go_simp; done) | (go_simp; rfl)); intro gb151 hg w5 hbox hb; have n0_ := Aside0.mk (below_step (by repeat (first | (with_reducible first | exact HB.out | apply below_alloc | apply pw_below_drewN | apply below_drew1) | exact HB.out)) hb); have n1_ := Aside0.mk (hbox); have n2_ := Aside0.mk ((by rw [hg]; exact (below_size (by repeat (first | (with_reducible first | exact HB.out | apply below_alloc | apply pw_below_drewN | apply below_drew1) | exact HB.out))) : w.heap.size ≤ gb151)); have n3_ := Aside0.mk ((by rw [hg]; exact (below_size (by repeat (first | (with_reducible first | exact HB.out | apply below_alloc | apply pw_below_drewN | apply below_drew1) | exact HB.out))) : w.heap.size ≤ gb151)); clear HB; have HB := n0_; have BK151 := n1_; have GW151 := n2_; have GE151 := n3_; clear n0_ n1_ n2_ n3_; clear hb hbox hg) | ((with_reducible refine gate_callee (f := 10) rfl ?_); refine goesL_ (some 7) rfl rfl Tryd.func10 (by kernel_rfl) rfl #[] rfl (by (try simp only [List.map_toArray, List.map_cons, List.map_nil]); first | done | rfl | (simp only [List.length_drop, List.length_take]; rfl)) ?_; (with_reducible refine (swagelaw08_live.calls k  true _ A2.out).mono ?_); rintro e w6 ⟨rfl, hb⟩; refine ⟨_, rfl, ?_⟩; have n0_ := Aside0.mk (blk_below (g := gb151) (o := .cells #[.int .i64 a0_0, .int .i64 a0_1, .slice A0_2 l0_2.length c0_2, .slice A0_3 l0_3.length c0_3] 25 (0, 0)) (by (with_reducible repeat (first | refine blk_drewN ?_ _ | refine blk_drew ?_ | refine blk_alloc ?_ _)); exact BK151.out) hb); have n1_ := Aside0.mk (below_step (by repeat (first | (with_reducible first | exact HB.out | apply below_alloc | apply pw_below_drewN | apply below_drew1 | refine below_set ?_ GE151.out) | exact HB.out)) hb); clear BK151; clear HB; have BK151 := n0_; have HB := n1_; clear n0_ n1_; (try clear hb); (try clear hb2); (try clear hk); (try clear hi)))
    (try simp only [Act.put, List.setIfInBounds_toArray, List.set_cons_zero, List.set_cons_succ])
    go_cut [18] (fun v18 wc => ∃ (kq : Nat) (x18_3 : Bool), v18 = .bool x18_3 ∧ Aside0 (swagelaw08_ProgChecks.j0 kq x18_3 a0_0 a0_1 l0_2 l0_3 = some r) ∧ Aside0 (kq ≤ k) ∧ Aside0 (wc.heap[gb151]? = some (.cells #[.int .i64 a0_0, .int .i64 a0_1, (.slice A0_2 l0_2.length c0_2), (.slice A0_3 l0_3.length c0_3)] 25 (0, 0))) ∧ Aside0 (Below w.heap.size w wc))
    case first =>
      have H := HC4.out
      clear HC4
      by_cases c7 : (l0_2.length : Int) > 20000
      · rw [if_pos c7] at H
        have c7b0 : decide (20000 < (l0_2.length : Int)) = true := decide_eq_true c7
        have c7b1 : decide (20000 < l0_2.length) = true := decide_eq_true (by omega)
        clear c7
        (first | rw [c7b0] | (simp only [i64_w, i32_w]; rw [c7b0]) | skip)
        have H' := Aside0.mk H
        clear H
        have hcz8_0 : w6.cell? ⟨gb151, 0, none⟩ = some (.int .i64 a0_0) := (blk_cell BK151.out 0).trans rfl
        have hcz8_1 : w6.cell? ⟨gb151, 1, none⟩ = some (.int .i64 a0_1) := (blk_cell BK151.out 1).trans rfl
        have hcz8_2 : w6.cell? ⟨gb151, 2, none⟩ = some (.slice A0_2 l0_2.length c0_2) := (blk_cell BK151.out 2).trans rfl
        have hcz8_3 : w6.cell? ⟨gb151, 3, none⟩ = some (.slice A0_3 l0_3.length c0_3) := (blk_cell BK151.out 3).trans rfl
        have hfz8_0 := blk_frozen BK151.out 0
        have hfz8_1 := blk_frozen BK151.out 1
        have hfz8_2 := blk_frozen BK151.out 2
        have hfz8_3 := blk_frozen BK151.out 3
        go_wp2
        go_meet
        case rel => exact ⟨_, (true), (by first | rfl | (simp; done) | (simp [*]; done)), H', ⟨by first | omega | exact Nat.le_refl _⟩, ⟨by (with_reducible repeat (first | refine blk_drewN ?_ _ | refine blk_drew ?_ | refine blk_alloc ?_ _)); exact BK151.out⟩, ⟨by repeat (first | (with_reducible first | exact HB.out | apply below_alloc | apply pw_below_drewN | apply below_drew1 | refine below_set ?_ GE151.out) | exact HB.out)⟩⟩
      · rw [if_neg c7] at H
        have c7b0 : decide (20000 < (l0_2.length : Int)) = false := decide_eq_false c7
        have c7b1 : decide (20000 < l0_2.length) = false := decide_eq_false (by omega)
        clear c7
        (first | rw [c7b0] | (simp only [i64_w, i32_w]; rw [c7b0]) | skip)
        have H' := Aside0.mk H
        clear H
        have hcz9_0 : w6.cell? ⟨gb151, 0, none⟩ = some (.int .i64 a0_0) := (blk_cell BK151.out 0).trans rfl
        have hcz9_1 : w6.cell? ⟨gb151, 1, none⟩ = some (.int .i64 a0_1) := (blk_cell BK151.out 1).trans rfl
        have hcz9_2 : w6.cell? ⟨gb151, 2, none⟩ = some (.slice A0_2 l0_2.length c0_2) := (blk_cell BK151.out 2).trans rfl
        have hcz9_3 : w6.cell? ⟨gb151, 3, none⟩ = some (.slice A0_3 l0_3.length c0_3) := (blk_cell BK151.out 3).trans rfl
        have hfz9_0 := blk_frozen BK151.out 0
        have hfz9_1 := blk_frozen BK151.out 1
        have hfz9_2 := blk_frozen BK151.out 2
        have hfz9_3 := blk_frozen BK151.out 3
        go_wp2
        go_meet
        case rel => exact ⟨_, (decide (20000 < l0_3.length)), (by first | rfl | (simp; done) | (simp [*]; done) | (simp; omega)), H', ⟨by first | omega | exact Nat.le_refl _⟩, ⟨by (with_reducible repeat (first | refine blk_drewN ?_ _ | refine blk_drew ?_ | refine blk_alloc ?_ _)); exact BK151.out⟩, ⟨by repeat (first | (with_reducible first | exact HB.out | apply below_alloc | apply pw_below_drewN | apply below_drew1 | refine below_set ?_ GE151.out) | exact HB.out)⟩⟩
    case rest =>
      clear HC4
      try clear c3
      obtain ⟨kq, x18_3, rfl, HA, HJ3, BK151, HB⟩ := hcut
      cases kq with
      | zero => exact absurd HA.out (by simp [swagelaw08_ProgChecks.j0])
      | succ kj3 =>
        have H := HA.out
        clear HA
        simp only [swagelaw08_ProgChecks.j0] at H
        by_cases c10 : x18_3 = true
        · subst c10
          have H1 : (some true) = some r := by rw [if_pos rfl] at H; exact H
          clear H
          have H := H1
          clear H1
          obtain rfl := Option.some.inj H
          go_wp2
          go_ret
          exact ⟨by first | rfl | (simp [errW_none, errW_some] <;> rfl) | (simp [*, errW_none, errW_some] <;> rfl), by repeat (first | (with_reducible first | exact HB.out | apply below_alloc | apply pw_below_drewN | apply below_drew1 | refine below_set ?_ GE151.out) | exact HB.out)⟩
        · replace c10 := Bool.eq_false_iff.mpr c10
          subst c10
          have H1 : ((prog_Check.f kj3 a0_0 a0_1 l0_2 l0_3).bind fun bt153 => ((swageref08_Check.f kj3 a0_0 a0_1 l0_2 l0_3).bind fun bt155 => (if bt155.2 = true then (if bt153.1 = bt155.1 then (if bt153.2 = 80 then ((swagelaw08_live.f kj3).bind fun t157 => (some t157)) else (some false)) else (some false)) else (if bt153.1 = 0 then (some (bt153.2 == 0)) else (some false))))) = some r := by rw [if_neg (show ¬ (false = true) by decide)] at H; exact H
          clear H
          have H := H1
          clear H1
          replace H := Option.bind_eq_some_iff.mp H
          obtain ⟨⟨t153, t154⟩, A110, H⟩ := H
          replace H : ((swageref08_Check.f kj3 a0_0 a0_1 l0_2 l0_3).bind fun bt155 => (if bt155.2 = true then (if t153 = bt155.1 then (if t154 = 80 then ((swagelaw08_live.f kj3).bind fun t157 => (some t157)) else (some false)) else (some false)) else (if t153 = 0 then (some (t154 == 0)) else (some false)))) = some r := H
          have A11 := Aside0.mk A110
          clear A110
          replace H := Option.bind_eq_some_iff.mp H
          obtain ⟨⟨t155, t156⟩, A120, H⟩ := H
          replace H : (if t156 = true then (if t153 = t155 then (if t154 = 80 then ((swagelaw08_live.f kj3).bind fun t157 => (some t157)) else (some false)) else (some false)) else (if t153 = 0 then (some (t154 == 0)) else (some false))) = some r := H
          have A12 := Aside0.mk A120
          clear A120
          by_cases c13 : t156 = true
          · subst c13
            have H1 : (if t153 = t155 then (if t154 = 80 then ((swagelaw08_live.f kj3).bind fun t157 => (some t157)) else (some false)) else (some false)) = some r := by rw [if_pos rfl] at H; exact H
            clear H
            have H := H1
            clear H1
            by_cases c14 : t153 = t155
            · rw [if_pos c14] at H
              have c14b0 : (t153 == t155) = true := beq_iff_eq.mpr c14
              have c14b1 : (t153 != t155) = false := bne_eq_false_iff_eq.mpr c14
              clear c14
              by_cases c15 : t154 = 80
              · rw [if_pos c15] at H
                have c15b0 : (t154 == 80) = true := beq_iff_eq.mpr c15
                have c15b1 : (t154 != 80) = false := bne_eq_false_iff_eq.mpr c15
                clear c15
                replace H := Option.bind_eq_some_iff.mp H
                obtain ⟨t157, A160, H⟩ := H
                replace H : (some t157) = some r := H
                have A16 := Aside0.mk A160
                clear A160
                obtain rfl := Option.some.inj H
                have hcz17_0 : wc.cell? ⟨gb151, 0, none⟩ = some (.int .i64 a0_0) := (blk_cell BK151.out 0).trans rfl
                have hcz17_1 : wc.cell? ⟨gb151, 1, none⟩ = some (.int .i64 a0_1) := (blk_cell BK151.out 1).trans rfl
                have hcz17_2 : wc.cell? ⟨gb151, 2, none⟩ = some (.slice A0_2 l0_2.length c0_2) := (blk_cell BK151.out 2).trans rfl
                have hcz17_3 : wc.cell? ⟨gb151, 3, none⟩ = some (.slice A0_3 l0_3.length c0_3) := (blk_cell BK151.out 3).trans rfl
                have hfz17_0 := blk_frozen BK151.out 0
                have hfz17_1 := blk_frozen BK151.out 1
                have hfz17_2 := blk_frozen BK151.out 2
                have hfz17_3 := blk_frozen BK151.out 3
                go_wp2_with (first | ((with_reducible refine gate_callee (f := 11) rfl ?_); refine goesL_ (some 21) rfl rfl Tryd.func11 (by kernel_rfl) rfl #[.agg #[.int .i64 a0_0, .int .i64 a0_1, .slice A0_2 l0_2.length c0_2, .slice A0_3 l0_3.length c0_3]] rfl (by (try simp only [List.map_toArray, List.map_cons, List.map_nil]); first | done | rfl | (simp only [List.length_drop, List.length_take]; rfl)) ?_; (with_reducible refine (prog_Check.calls kj3 a0_0 a0_1 _ _ l0_2 _ _ l0_3 t153 t154 _ ?side1 ?side2 ?side3 ?side4 A11.out).mono ?_); (case side1 => repeat (first | exact (Kd.C_below HR0_2.out HB.out) | (with_reducible refine Kd.C_alloc ?_ _) | (with_reducible refine Kd.C_drewN ?_ _) | (with_reducible refine Kd.C_drew ?_))); (case side2 => exact HC0_2.out); (case side3 => repeat (first | exact (Kd.C_below HR0_3.out HB.out) | (with_reducible refine Kd.C_alloc ?_ _) | (with_reducible refine Kd.C_drewN ?_ _) | (with_reducible refine Kd.C_drew ?_))); (case side4 => exact HC0_3.out); rintro e w18 ⟨rfl, hb⟩; refine ⟨_, rfl, ?_⟩; have n0_ := Aside0.mk (blk_below (g := gb151) (o := .cells #[.int .i64 a0_0, .int .i64 a0_1, .slice A0_2 l0_2.length c0_2, .slice A0_3 l0_3.length c0_3] 25 (0, 0)) (by (with_reducible repeat (first | refine blk_drewN ?_ _ | refine blk_drew ?_ | refine blk_alloc ?_ _)); exact BK151.out) hb); have n1_ := Aside0.mk (below_step (by repeat (first | (with_reducible first | exact HB.out | apply below_alloc | apply pw_below_drewN | apply below_drew1 | refine below_set ?_ GE151.out) | exact HB.out)) hb); clear BK151; clear HB; have BK151 := n0_; have HB := n1_; clear n0_ n1_; (try clear hb); (try clear hb2); (try clear hk); (try clear hi); have hcz19_0 : w18.cell? ⟨gb151, 0, none⟩ = some (.int .i64 a0_0) := (blk_cell BK151.out 0).trans rfl; have hcz19_1 : w18.cell? ⟨gb151, 1, none⟩ = some (.int .i64 a0_1) := (blk_cell BK151.out 1).trans rfl; have hcz19_2 : w18.cell? ⟨gb151, 2, none⟩ = some (.slice A0_2 l0_2.length c0_2) := (blk_cell BK151.out 2).trans rfl; have hcz19_3 : w18.cell? ⟨gb151, 3, none⟩ = some (.slice A0_3 l0_3.length c0_3) := (blk_cell BK151.out 3).trans rfl; have hfz19_0 := blk_frozen BK151.out 0; have hfz19_1 := blk_frozen BK151.out 1; have hfz19_2 := blk_frozen BK151.out 2; have hfz19_3 := blk_frozen BK151.out 3) | ((with_reducible refine gate_callee (f := 12) rfl ?_); refine goesL_ (some 26) rfl rfl Tryd.func12 (by kernel_rfl) rfl #[.agg #[.int .i64 a0_0, .int .i64 a0_1, .slice A0_2 l0_2.length c0_2, .slice A0_3 l0_3.length c0_3]] rfl (by (try simp only [List.map_toArray, List.map_cons, List.map_nil]); first | done | rfl | (simp only [List.length_drop, List.length_take]; rfl)) ?_; (with_reducible refine (swageref08_Check.calls kj3 a0_0 a0_1 _ _ l0_2 _ _ l0_3 t155 true _ ?side1 ?side2 ?side3 ?side4 A12.out).mono ?_); (case side1 => repeat (first | exact (Kd.C_below HR0_2.out HB.out) | (with_reducible refine Kd.C_alloc ?_ _) | (with_reducible refine Kd.C_drewN ?_ _) | (with_reducible refine Kd.C_drew ?_))); (case side2 => exact HC0_2.out); (case side3 => repeat (first | exact (Kd.C_below HR0_3.out HB.out) | (with_reducible refine Kd.C_alloc ?_ _) | (with_reducible refine Kd.C_drewN ?_ _) | (with_reducible refine Kd.C_drew ?_))); (case side4 => exact HC0_3.out); rintro e w20 ⟨rfl, hb⟩; refine ⟨_, rfl, ?_⟩; have n0_ := Aside0.mk (blk_below (g := gb151) (o := .cells #[.int .i64 a0_0, .int .i64 a0_1, .slice A0_2 l0_2.length c0_2, .slice A0_3 l0_3.length c0_3] 25 (0, 0)) (by (with_reducible repeat (first | refine blk_drewN ?_ _ | refine blk_drew ?_ | refine blk_alloc ?_ _)); exact BK151.out) hb); have n1_ := Aside0.mk (below_step (by repeat (first | (with_reducible first | exact HB.out | apply below_alloc | apply pw_below_drewN | apply below_drew1 | refine below_set ?_ GE151.out) | exact HB.out)) hb); clear BK151; clear HB; have BK151 := n0_; have HB := n1_; clear n0_ n1_; (try clear hb); (try clear hb2); (try clear hk); (try clear hi)) | (go_at_call 10; (with_reducible refine (swagelaw08_live.calls kj3  t157 _ A16.out).mono ?_); rintro e w21 ⟨rfl, hb⟩; have n0_ := Aside0.mk (blk_below (g := gb151) (o := .cells #[.int .i64 a0_0, .int .i64 a0_1, .slice A0_2 l0_2.length c0_2, .slice A0_3 l0_3.length c0_3] 25 (0, 0)) (by (with_reducible repeat (first | refine blk_drewN ?_ _ | refine blk_drew ?_ | refine blk_alloc ?_ _)); exact BK151.out) hb); have n1_ := Aside0.mk (below_step (by repeat (first | (with_reducible first | exact HB.out | apply below_alloc | apply pw_below_drewN | apply below_drew1 | refine below_set ?_ GE151.out) | exact HB.out)) hb); clear BK151; clear HB; have BK151 := n0_; have HB := n1_; clear n0_ n1_; (try clear hb); (try clear hb2); (try clear hk); (try clear hi)))
                go_ret
                exact ⟨by first | rfl | (simp [errW_none, errW_some] <;> rfl) | (simp [*, errW_none, errW_some] <;> rfl), by repeat (first | (with_reducible first | exact HB.out | apply below_alloc | apply pw_below_drewN | apply below_drew1 | refine below_set ?_ GE151.out) | exact HB.out)⟩
              · rw [if_neg c15] at H
                have c15b0 : (t154 == 80) = false := beq_eq_false_iff_ne.mpr c15
                have c15b1 : (t154 != 80) = true := bne_iff_ne.mpr c15
                obtain rfl := Option.some.inj H
                exact absurd hT.out (by simp)
            · rw [if_neg c14] at H
              have c14b0 : (t153 == t155) = false := beq_eq_false_iff_ne.mpr c14
              have c14b1 : (t153 != t155) = true := bne_iff_ne.mpr c14
              obtain rfl := Option.some.inj H
              exact absurd hT.out (by simp)
          · replace c13 := Bool.eq_false_iff.mpr c13
            subst c13
            have H1 : (if t153 = 0 then (some (t154 == 0)) else (some false)) = some r := by rw [if_neg (show ¬ (false = true) by decide)] at H; exact H
            clear H
            have H := H1
            clear H1
            by_cases c22 : t153 = 0
            · rw [if_pos c22] at H
              have c22b0 : (t153 == 0) = true := beq_iff_eq.mpr c22
              have c22b1 : (t153 != 0) = false := bne_eq_false_iff_eq.mpr c22
              clear c22
              obtain rfl := Option.some.inj H
              have hcz23_0 : wc.cell? ⟨gb151, 0, none⟩ = some (.int .i64 a0_0) := (blk_cell BK151.out 0).trans rfl
              have hcz23_1 : wc.cell? ⟨gb151, 1, none⟩ = some (.int .i64 a0_1) := (blk_cell BK151.out 1).trans rfl
              have hcz23_2 : wc.cell? ⟨gb151, 2, none⟩ = some (.slice A0_2 l0_2.length c0_2) := (blk_cell BK151.out 2).trans rfl
              have hcz23_3 : wc.cell? ⟨gb151, 3, none⟩ = some (.slice A0_3 l0_3.length c0_3) := (blk_cell BK151.out 3).trans rfl
              have hfz23_0 := blk_frozen BK151.out 0
              have hfz23_1 := blk_frozen BK151.out 1
              have hfz23_2 := blk_frozen BK151.out 2
              have hfz23_3 := blk_frozen BK151.out 3
              go_wp2_with (first | ((with_reducible refine gate_callee (f := 11) rfl ?_); refine goesL_ (some 21) rfl rfl Tryd.func11 (by kernel_rfl) rfl #[.agg #[.int .i64 a0_0, .int .i64 a0_1, .slice A0_2 l0_2.length c0_2, .slice A0_3 l0_3.length c0_3]] rfl (by (try simp only [List.map_toArray, List.map_cons, List.map_nil]); first | done | rfl | (simp only [List.length_drop, List.length_take]; rfl)) ?_; (with_reducible refine (prog_Check.calls kj3 a0_0 a0_1 _ _ l0_2 _ _ l0_3 t153 t154 _ ?side1 ?side2 ?side3 ?side4 A11.out).mono ?_); (case side1 => repeat (first | exact (Kd.C_below HR0_2.out HB.out) | (with_reducible refine Kd.C_alloc ?_ _) | (with_reducible refine Kd.C_drewN ?_ _) | (with_reducible refine Kd.C_drew ?_))); (case side2 => exact HC0_2.out); (case side3 => repeat (first | exact (Kd.C_below HR0_3.out HB.out) | (with_reducible refine Kd.C_alloc ?_ _) | (with_reducible refine Kd.C_drewN ?_ _) | (with_reducible refine Kd.C_drew ?_))); (case side4 => exact HC0_3.out); rintro e w24 ⟨rfl, hb⟩; refine ⟨_, rfl, ?_⟩; have n0_ := Aside0.mk (blk_below (g := gb151) (o := .cells #[.int .i64 a0_0, .int .i64 a0_1, .slice A0_2 l0_2.length c0_2, .slice A0_3 l0_3.length c0_3] 25 (0, 0)) (by (with_reducible repeat (first | refine blk_drewN ?_ _ | refine blk_drew ?_ | refine blk_alloc ?_ _)); exact BK151.out) hb); have n1_ := Aside0.mk (below_step (by repeat (first | (with_reducible first | exact HB.out | apply below_alloc | apply pw_below_drewN | apply below_drew1 | refine below_set ?_ GE151.out) | exact HB.out)) hb); clear BK151; clear HB; have BK151 := n0_; have HB := n1_; clear n0_ n1_; (try clear hb); (try clear hb2); (try clear hk); (try clear hi); have hcz25_0 : w24.cell? ⟨gb151, 0, none⟩ = some (.int .i64 a0_0) := (blk_cell BK151.out 0).trans rfl; have hcz25_1 : w24.cell? ⟨gb151, 1, none⟩ = some (.int .i64 a0_1) := (blk_cell BK151.out 1).trans rfl; have hcz25_2 : w24.cell? ⟨gb151, 2, none⟩ = some (.slice A0_2 l0_2.length c0_2) := (blk_cell BK151.out 2).trans rfl; have hcz25_3 : w24.cell? ⟨gb151, 3, none⟩ = some (.slice A0_3 l0_3.length c0_3) := (blk_cell BK151.out 3).trans rfl; have hfz25_0 := blk_frozen BK151.out 0; have hfz25_1 := blk_frozen BK151.out 1; have hfz25_2 := blk_frozen BK151.out 2; have hfz25_3 := blk_frozen BK151.out 3) | ((with_reducible refine gate_callee (f := 12) rfl ?_); refine goesL_ (some 26) rfl rfl Tryd.func12 (by kernel_rfl) rfl #[.agg #[.int .i64 a0_0, .int .i64 a0_1, .slice A0_2 l0_2.length c0_2, .slice A0_3 l0_3.length c0_3]] rfl (by (try simp only [List.map_toArray, List.map_cons, List.map_nil]); first | done | rfl | (simp only [List.length_drop, List.length_take]; rfl)) ?_; (with_reducible refine (swageref08_Check.calls kj3 a0_0 a0_1 _ _ l0_2 _ _ l0_3 t155 false _ ?side1 ?side2 ?side3 ?side4 A12.out).mono ?_); (case side1 => repeat (first | exact (Kd.C_below HR0_2.out HB.out) | (with_reducible refine Kd.C_alloc ?_ _) | (with_reducible refine Kd.C_drewN ?_ _) | (with_reducible refine Kd.C_drew ?_))); (case side2 => exact HC0_2.out); (case side3 => repeat (first | exact (Kd.C_below HR0_3.out HB.out) | (with_reducible refine Kd.C_alloc ?_ _) | (with_reducible refine Kd.C_drewN ?_ _) | (with_reducible refine Kd.C_drew ?_))); (case side4 => exact HC0_3.out); rintro e w26 ⟨rfl, hb⟩; refine ⟨_, rfl, ?_⟩; have n0_ := Aside0.mk (blk_below (g := gb151) (o := .cells #[.int .i64 a0_0, .int .i64 a0_1, .slice A0_2 l0_2.length c0_2, .slice A0_3 l0_3.length c0_3] 25 (0, 0)) (by (with_reducible repeat (first | refine blk_drewN ?_ _ | refine blk_drew ?_ | refine blk_alloc ?_ _)); exact BK151.out) hb); have n1_ := Aside0.mk (below_step (by repeat (first | (with_reducible first | exact HB.out | apply below_alloc | apply pw_below_drewN | apply below_drew1 | refine below_set ?_ GE151.out) | exact HB.out)) hb); clear BK151; clear HB; have BK151 := n0_; have HB := n1_; clear n0_ n1_; (try clear hb); (try clear hb2); (try clear hk); (try clear hi)))
              go_ret
              exact ⟨by first | rfl | (simp [errW_none, errW_some] <;> rfl) | (simp [*, errW_none, errW_some] <;> rfl), by repeat (first | (with_reducible first | exact HB.out | apply below_alloc | apply pw_below_drewN | apply below_drew1 | refine below_set ?_ GE151.out) | exact HB.out)⟩
            · rw [if_neg c22] at H
              have c22b0 : (t153 == 0) = false := beq_eq_false_iff_ne.mpr c22
              have c22b1 : (t153 != 0) = true := bne_iff_ne.mpr c22
              obtain rfl := Option.some.inj H
              exact absurd hT.out (by simp)
  · replace c3 := Bool.eq_false_iff.mpr c3
    subst c3
    have H1 : (some false) = some r := by rw [if_neg (show ¬ (false = true) by decide)] at H; exact H
    clear H
    have H := H1
    clear H1
    obtain rfl := Option.some.inj H
    exact absurd hT.out (by simp)

end Go.Proofs.YtkknkdmdglncoaaDoor.XA
end

section
/- Arguments opened by their kinds: what is read as data at a type is a Lean value of that type's kind. Of every seat alike; its own words alone. -/
namespace Go.Proofs.YtkknkdmdglncoaaDoor.Opn
open Go.ChangeShapes Go.WideShapes Go.Proofs.YtkknkdmdglncoaaDoorW.PrintWords
set_option linter.unusedVariables false

/-- Whatever is read at type t is of kind d, and wf. -/
structure Opn {α : Type} (P : Program) (t : TypeId) (d : Kd α) (wf : α → Prop) : Prop where
  get : ∀ {H : Type} {enc : TypeId × Value → H} {w : World} {base : Nat} {spare : Nat → Bool} {held : Bool} {fuel : Nat} {cs : List Value} {x : DataW H × List MemPlace},
    DataW.trod enc P w base spare held fuel t cs = some x → (∀ n ∈ DataW.weights P t x.1, n ≤ reachBytes) → ∃ a : α, d.K w a cs ∧ wf a

section
variable {P : Program} {t : TypeId}
theorem opn_int {k : IntKind} (ht : P.underlying t = some (.int k)) : Opn P t (Kd.int k) (fun n => (Lit.int k n).wf = true) :=
  ⟨fun h _ => by
    obtain ⟨n, rfl, rfl, hw⟩ := DataW.trod_int ht h
    exact ⟨n, rfl, hw⟩⟩
theorem choose_list {α : Type} {Q : Nat → α → Prop} : ∀ n : Nat, (∀ i, i < n → ∃ x, Q i x) → ∃ xs : List α, xs.length = n ∧ ∀ i x, xs[i]? = some x → Q i x := by
  intro n h
  induction n with
  | zero => exact ⟨[], rfl, fun i x hx => by simp at hx⟩
  | succ n ih =>
    obtain ⟨xs, hl, hq⟩ := ih (fun i hi => h i (by omega))
    obtain ⟨y, hy⟩ := h n (by omega)
    refine ⟨xs ++ [y], by simp [hl], fun i x hx => ?_⟩
    by_cases hi : i < n
    · rw [List.getElem?_append_left (by omega)] at hx
      exact hq i x hx
    · rw [List.getElem?_append_right (by omega)] at hx
      have : i = n := by
        have := (List.getElem?_eq_some_iff.1 hx).1
        simp at this
        omega
      subst this
      rw [hl, Nat.sub_self] at hx
      simp at hx
      subst hx
      exact hy

theorem opn_slice {α : Type} {e : TypeId} {d : Kd α} {wf : α → Prop} {B : Nat} (ht : P.underlying t = some (.slice e)) (hC : P.cellsOf e = d.sz) (hB : P.bytesOf e = B) (ho : Opn P e d wf) :
    Opn P t (Kd.slice e d) (fun xs => xs.length * B ≤ 140737488351232 ∧ xs.length ≤ 9223372036854775807 ∧ ∀ x ∈ xs, wf x) :=
  ⟨fun {H enc w base spare held fuel cs x} h hz => by
    rcases DataW.trod_slice ht h with ⟨rfl, rfl⟩ | ⟨a, len, cap, elems, rest, n, rfl, rfl, rfl, hb, hl, hm, hlen, hel, _, _⟩
    · refine ⟨[], ⟨none, 0, rfl, by simp, Kd.C_nil d w⟩, by simp⟩
    · have hw : ∀ n ∈ DataW.weightsAll P e (elems.map (·.1)), n ≤ reachBytes := fun n hn => hz n (by simp only [DataW.weights, ht]; exact List.mem_cons_of_mem _ (List.mem_append_left _ hn))
      have hwi : ∀ (i : Nat) (y : DataW H × List MemPlace), elems[i]? = some y → ∀ n ∈ DataW.weights P e y.1, n ≤ reachBytes := by
        have : ∀ (l : List (DataW H)) (d : DataW H), d ∈ l → ∀ n ∈ DataW.weights P e d, n ∈ DataW.weightsAll P e l := by
          intro l
          induction l with
          | nil => intro d hd; simp at hd
          | cons z l ih =>
            intro d hd n hn
            simp only [DataW.weightsAll, List.mem_append]
            rcases List.mem_cons.1 hd with rfl | hd
            · exact Or.inl hn
            · exact Or.inr (ih d hd n hn)
        intro i y hy n hn
        exact hw n (this _ y.1 (List.mem_map.2 ⟨y, List.mem_of_getElem? hy, rfl⟩) n hn)
      have hx : ∀ i, i < len → ∃ x : α, (∃ c, c.length = d.sz ∧ d.K w x c ∧ ∀ j u, c[j]? = some u → w.cell? (a.add (i * d.sz + j)) = some u) ∧ wf x := by
        intro i hi
        have h1 := hel i hi
        rw [List.getElem?_eq_getElem (by omega)] at h1
        obtain ⟨c, hc, hd⟩ := Option.bind_eq_some_iff.1 h1
        obtain ⟨x, hK, hwf⟩ := ho.get hd (hwi i _ (List.getElem?_eq_getElem (by omega)))
        obtain ⟨_, hcl, hcell⟩ := World.cells?_some hc
        refine ⟨x, ⟨c, by rw [hcl, hC], hK, fun j u hj => ?_⟩, hwf⟩
        have hj' : j < P.cellsOf e := by rw [← hcl]; exact (List.getElem?_eq_some_iff.1 hj).1
        rw [← hC, ← add_add, hcell j hj', hj]
      obtain ⟨xs, hxl, hq⟩ := choose_list len hx
      refine ⟨xs, ⟨some a, cap, by rw [hxl], by omega, ?_⟩, ?_, by unfold maxLen at hm; omega, fun x hx => ?_⟩
      · refine ⟨rfl, by unfold maxLen at hm; omega, fun _ => ⟨a, rfl, fun j p hj => ?_⟩⟩
        exact (hq j p hj).1
      · have := hz ((elems.map (·.1)).length + (rest.map (·.1)).length |> (· * P.bytesOf e)) (by simp only [DataW.weights, ht]; exact List.mem_cons_self)
        simp only [List.length_map, hB] at this
        rw [hxl, ← hlen]
        exact Nat.le_trans (Nat.mul_le_mul_right _ (Nat.le_add_right _ _)) this
      · obtain ⟨i, hi⟩ := List.mem_iff_getElem?.1 hx
        exact (hq i x hi).2⟩

/-- The fields of a struct, from offset off on. -/
structure OpnFs {α : Type} (P : Program) (fs : List Field) (off : Nat) (d : Kd α) (wf : α → Prop) : Prop where
  get : ∀ {H : Type} {enc : TypeId × Value → H} {w : World} {base : Nat} {spare : Nat → Bool} {held : Bool} {fuel : Nat} {cs : List Value} {xs : List (DataW H × List MemPlace)},
    cs.length = off + d.sz → xs.length = fs.length →
    (∀ (i : Nat) (f : Field), fs[i]? = some f → DataW.trod enc P w base spare held fuel f.type ((cs.drop f.offset).take (P.cellsOf f.type)) = xs[i]?) →
    (∀ n ∈ DataW.weightsEach P (fs.map (·.type)) (xs.map (·.1)), n ≤ reachBytes) → ∃ a : α, d.K w a (cs.drop off) ∧ wf a

theorem fs_one {α : Type} {f : Field} {off : Nat} {d : Kd α} {wf : α → Prop} (hoff : f.offset = off) (hC : P.cellsOf f.type = d.sz) (ho : Opn P f.type d wf) : OpnFs P [f] off d wf :=
  ⟨fun {H enc w base spare held fuel cs xs} hl hx hf hz => by
    match xs, hx with
    | [y], _ =>
      have h := hf 0 f rfl
      rw [hoff, hC, List.take_of_length_le (by simp; omega)] at h
      exact ho.get h (fun n hn => hz n (by simp only [List.map_cons, List.map_nil, DataW.weightsEach]; exact List.mem_append_left _ hn))⟩
theorem fs_cons {α β : Type} {f : Field} {fs : List Field} {off : Nat} {d : Kd α} {d' : Kd β} {wf : α → Prop} {wf' : β → Prop} (hoff : f.offset = off) (hC : P.cellsOf f.type = d.sz) (ho : Opn P f.type d wf) (hs : OpnFs P fs (off + d.sz) d' wf') :
    OpnFs P (f :: fs) off (Kd.pair d d') (fun x => wf x.1 ∧ wf' x.2) :=
  ⟨fun {H enc w base spare held fuel cs xs} hl hx hf hz => by
    match xs, hx with
    | y :: ys, hx =>
      have hl' : cs.length = off + (d.sz + d'.sz) := hl
      have h := hf 0 f rfl
      rw [hoff, hC] at h
      obtain ⟨a, hK, hwf⟩ := ho.get h (fun n hn => hz n (by simp only [List.map_cons, DataW.weightsEach]; exact List.mem_append_left _ hn))
      obtain ⟨b, hK', hwf'⟩ := hs.get (cs := cs) (xs := ys) (by omega) (by simpa using hx) (fun i g hg => by simpa using hf (i + 1) g (by simpa using hg))
        (fun n hn => hz n (by simp only [List.map_cons, DataW.weightsEach]; exact List.mem_append_right _ hn))
      refine ⟨(a, b), ⟨_, _, ?_, hK, hK'⟩, hwf, hwf'⟩
      rw [← List.drop_drop, List.take_append_drop]⟩
theorem opn_struct {α : Type} {fs : Array Field} {d : Kd α} {wf : α → Prop} (ht : P.underlying t = some (.struct fs)) (hC : P.cellsOf t = d.sz) (hs : OpnFs P fs.toList 0 d wf) : Opn P t d wf :=
  ⟨fun {H enc w base spare held fuel cs x} h hz => by
    obtain ⟨xs, n, rfl, rfl, hl, hxl, hf⟩ := DataW.trod_struct ht h
    have := hs.get (cs := cs) (xs := xs) (by rw [hl, hC]; simp) (by simpa using hxl) (fun i f hi => hf i f (by simpa using hi)) (fun n hn => hz n (by simp only [DataW.weights, ht]; exact hn))
    simpa using this⟩
/-- A Lean structure in the place of its fields' pairs. -/
theorem opn_iso {α β : Type} {d : Kd α} {wf : α → Prop} (f : β → α) (g : α → β) (hfg : ∀ a, f (g a) = a) (h : Opn P t d wf) : Opn P t (Kd.iso d f) (fun b => wf (f b)) :=
  ⟨fun ht hz => by
    obtain ⟨a, hK, hwf⟩ := h.get ht hz
    exact ⟨g a, by show d.K _ (f (g a)) _; rw [hfg]; exact hK, by rw [hfg]; exact hwf⟩⟩
end

section
variable {H : Type} {enc : TypeId × Value → H} {P : Program} {w : World} {base : Nat} {spare : Nat → Bool} {held : Bool} {t : TypeId}
theorem opened {α : Type} {d : Kd α} {wf : α → Prop} (ho : Opn P t d wf) {v : Value} {dd : DataW H} {ps : List MemPlace} {ts : List TypeId} {ds : List (DataW H)} {j : Nat}
    (hsz : (DataW.weightsEach P ts ds).all (· ≤ reachBytes) = true) (ht : ts[j]? = some t) (hd : ds[j]? = some dd) (h : DataW.Trod enc P w base spare held t v dd ps) : ∃ a : α, d.K w a v.cells.toList ∧ wf a := by
  obtain ⟨fuel, hf⟩ := h
  exact ho.get hf (fun n hn => by simpa using List.all_eq_true.1 hsz n (DataW.weights_mem_each ht hd n hn))
theorem trod_lt {v : Value} {d : DataW H} {ps : List MemPlace} (h : DataW.Trod enc P w base spare held t v d ps) : ∀ x ∈ ps, x.block < w.heap.size := by
  obtain ⟨m, hm⟩ := h
  exact DataW.trod_lt m _ _ _ hm
end
end Go.Proofs.YtkknkdmdglncoaaDoor.Opn
end

section
namespace Go.Proofs.YtkknkdmdglncoaaDoor.SaidProgChecks
open Go.RowKit Go.Proofs.YtkknkdmdglncoaaDoorW.PrintWords Go.Proofs.YtkknkdmdglncoaaDoorW.PrintLast Go.Proofs.YtkknkdmdglncoaaDoor.Opn Go.Proofs.YtkknkdmdglncoaaDoor.XA
set_option linter.unusedVariables false
/-- What is known of whatever is read at this type. -/
def wfS37 (x : S37) : Prop := (Lit.int .i64 x.f0).wf = true ∧ (Lit.int .i64 x.f1).wf = true ∧ (Lit.int .i64 x.f2).wf = true ∧ (Lit.int .i64 x.f3).wf = true ∧ (Lit.int .i64 x.f4).wf = true
theorem opnS37 : Opn Tryd.prog 37 k37 wfS37 := opn_iso (fun x : S37 => (x.f0, x.f1, x.f2, x.f3, x.f4)) (fun p => ⟨p.1, p.2.1, p.2.2.1, p.2.2.2.1, p.2.2.2.2⟩) (fun _ => rfl) (opn_struct Tryd.underlying37 (by kernel_rfl) (fs_cons rfl (by kernel_rfl) (opn_int Tryd.underlying3) (fs_cons rfl (by kernel_rfl) (opn_int Tryd.underlying3) (fs_cons rfl (by kernel_rfl) (opn_int Tryd.underlying3) (fs_cons rfl (by kernel_rfl) (opn_int Tryd.underlying3) (fs_one rfl (by kernel_rfl) (opn_int Tryd.underlying3)))))))
/-- What is known of whatever is read at this type. -/
def wfS25 (x : S25) : Prop := (Lit.int .i64 x.f0).wf = true ∧ (Lit.int .i64 x.f1).wf = true ∧ (x.f2.length * 40 ≤ 140737488351232 ∧ x.f2.length ≤ 9223372036854775807 ∧ ∀ y ∈ x.f2, wfS37 y) ∧ (x.f3.length * 8 ≤ 140737488351232 ∧ x.f3.length ≤ 9223372036854775807 ∧ ∀ y ∈ x.f3, (Lit.int .i64 y).wf = true)
theorem opnS25 : Opn Tryd.prog 25 k25 wfS25 := opn_iso (fun x : S25 => (x.f0, x.f1, x.f2, x.f3)) (fun p => ⟨p.1, p.2.1, p.2.2.1, p.2.2.2⟩) (fun _ => rfl) (opn_struct Tryd.underlying25 (by kernel_rfl) (fs_cons rfl (by kernel_rfl) (opn_int Tryd.underlying3) (fs_cons rfl (by kernel_rfl) (opn_int Tryd.underlying3) (fs_cons rfl (by kernel_rfl) (opn_slice (B := 40) Tryd.underlying22 (by kernel_rfl) (by kernel_rfl) (opnS37)) (fs_one rfl (by kernel_rfl) (opn_slice (B := 8) Tryd.underlying23 (by kernel_rfl) (by kernel_rfl) (opn_int Tryd.underlying3)))))))
/-- THE PURE STATEMENT. -/
def Pure : Prop := ∀ (x0 : S25), wfS25 x0 → ∃ k, swagelaw08_ProgChecks.f k x0.f0 x0.f1 x0.f2 x0.f3 = some true
end Go.Proofs.YtkknkdmdglncoaaDoor.SaidProgChecks
end

section
/- Rounds that suffice: words beside the printer's 'Ev'. -/
namespace Go.Proofs.YtkknkdmdglncoaaDoor.Evs
open Go.Proofs.YtkknkdmdglncoaaDoorW.PrintWords
section
variable {β : Type} {c : Prop} [Decidable c] {f g : Nat → Option β} {r : β}
theorem ev_pos (hc : c) (h : Ev f r) : Ev (fun n => if c then f n else g n) r := Ev.congr (fun _ => if_pos hc) h
theorem ev_neg (hc : ¬ c) (h : Ev g r) : Ev (fun n => if c then f n else g n) r := Ev.congr (fun _ => if_neg hc) h
end
end Go.Proofs.YtkknkdmdglncoaaDoor.Evs
end

section
/- Which programs may be, over lists: what both sides compute. -/
namespace Go.Proofs.YtkknkdmdglncoaaDoor.PlainProg
open Go.RowKit Go.Proofs.YtkknkdmdglncoaaDoorW.PrintWords Go.Proofs.YtkknkdmdglncoaaDoorW.PrintLast Go.Proofs.YtkknkdmdglncoaaDoor.XA Go.Proofs.YtkknkdmdglncoaaDoor.Evs
set_option linter.unusedVariables false
set_option linter.unusedSimpArgs false
theorem dec_iff {p q : Prop} [Decidable p] [Decidable q] (h : p ↔ q) : decide p = decide q := by
  by_cases hp : p
  · rw [decide_eq_true hp, decide_eq_true (h.1 hp)]
  · rw [decide_eq_false hp, decide_eq_false (fun hq => hp (h.2 hq))]
theorem wrapNext {j n : Nat} (h : j < n) (hn : n ≤ 4611686018427387904) : wrap64 ((j : Int) + 1) = ((j + 1 : Nat) : Int) := by unfold wrap64; omega
theorem drop_rd {l : List Int} {j : Nat} (h : j < l.length) : l.drop j = rd l j :: l.drop (j + 1) := by
  rw [List.drop_eq_getElem_cons h]
  simp [rd, List.getD_eq_getElem?_getD, List.getElem?_eq_getElem h]
theorem drop_rdT {l : List S37} {j : Nat} (h : j < l.length) : l.drop j = rd_T37 l j :: l.drop (j + 1) := by
  rw [List.drop_eq_getElem_cons h]
  simp [rd_T37, List.getD_eq_getElem?_getD, List.getElem?_eq_getElem h]
def ConstP (op c : Int) : Prop := (op = 5 ∨ op = 6 → ¬ c = 0 ∧ -512 ≤ c ∧ c ≤ 512) ∧ (op = 7 ∨ op = 8 → 1 ≤ c ∧ c ≤ 64) ∧ (¬ (op = 5 ∨ op = 6) ∧ ¬ (op = 7 ∨ op = 8) → c = 0)
instance (op c : Int) : Decidable (ConstP op c) := by unfold ConstP; exact inferInstance
def asks (op a b : Int) : List Int := if op = 3 ∨ op = 4 then [a, b] else if 1 ≤ op ∧ op ≤ 8 then [a] else []
def MayP (op t a b c regs : Int) : Prop := (1 ≤ op ∧ op ≤ 8) ∧ (0 ≤ t ∧ t < regs) ∧ (0 ≤ a ∧ a < regs) ∧ (op = 3 ∨ op = 4 → 0 ≤ b ∧ b < regs) ∧ (¬ (op = 3 ∨ op = 4) → b = 0) ∧ ConstP op c
instance (op t a b c regs : Int) : Decidable (MayP op t a b c regs) := by unfold MayP; exact inferInstance
theorem two_at (op : Int) : prog_two.f op = some (decide (op = 3 ∨ op = 4)) := by
  unfold prog_two.f
  by_cases h3 : op = 3
  · rw [if_pos h3, decide_eq_true (.inl h3)]
  · rw [if_neg h3]
    by_cases h4 : op = 4
    · rw [decide_eq_true (.inr h4), h4]; rfl
    · rw [decide_eq_false (by omega), beq_eq_false_iff_ne.2 h4]
theorem asks_at (k : Nat) (op t a b c : Int) : prog_Asks.f (k + 1) op t a b c = some (asks op a b) := by
  unfold prog_Asks.f asks
  rw [prog_Asks.j0, prog_Asks.j0]
  by_cases hr : 1 ≤ op ∧ op ≤ 8
  · have : op = 1 ∨ op = 2 ∨ op = 3 ∨ op = 4 ∨ op = 5 ∨ op = 6 ∨ op = 7 ∨ op = 8 := by omega
    rcases this with rfl | rfl | rfl | rfl | rfl | rfl | rfl | rfl <;> rfl
  · rw [if_neg (show ¬ op = 3 by omega), beq_eq_false_iff_ne.2 (show ¬ op = 4 by omega), if_neg (by decide), if_neg (show ¬ op = 1 by omega), if_neg (show ¬ op = 2 by omega), if_neg (show ¬ op = 5 by omega), if_neg (show ¬ op = 6 by omega), if_neg (show ¬ op = 7 by omega), if_neg (show ¬ op = 8 by omega), if_neg (show ¬ (op = 3 ∨ op = 4) by omega), if_neg hr]
theorem range_at (c l h : Int) : (if c ≥ l then some (decide (c ≤ h)) else some false) = some (decide (l ≤ c ∧ c ≤ h)) := by
  by_cases hl : c ≥ l
  · rw [if_pos hl]; exact congrArg some (dec_iff (by omega))
  · rw [if_neg hl, decide_eq_false (by omega)]
theorem const_at (k : Nat) (op t a b c : Int) : prog_constant.f (k + 1) op t a b c = some (decide (ConstP op c)) := by
  unfold prog_constant.f
  rw [prog_constant.j0, prog_constant.j0]
  have h1 : op = 5 ∨ op = 6 → (if c = 0 then some false else (if c ≥ (-512) then (some (decide (c ≤ 512))) else (some false))) = some (decide (ConstP op c)) := by
    intro h
    by_cases h0 : c = 0
    · rw [if_pos h0, decide_eq_false (by unfold ConstP; omega)]
    · rw [if_neg h0, range_at]; exact congrArg some (dec_iff (by unfold ConstP; omega))
  have h2 : op = 7 ∨ op = 8 → (if c ≥ 1 then (some (decide (c ≤ 64))) else (some false)) = some (decide (ConstP op c)) := by
    intro h
    rw [range_at]; exact congrArg some (dec_iff (by unfold ConstP; omega))
  by_cases h5 : op = 5
  · rw [if_pos h5, h5, if_pos (by decide), ← h5]; exact h1 (.inl h5)
  · rw [if_neg h5]
    by_cases h6 : op = 6
    · rw [h6, if_pos (by decide), ← h6]; exact h1 (.inr h6)
    · rw [beq_eq_false_iff_ne.2 h6, if_neg (by decide)]
      by_cases h7 : op = 7
      · rw [if_pos h7]; exact h2 (.inl h7)
      · rw [if_neg h7]
        by_cases h8 : op = 8
        · rw [if_pos h8]; exact h2 (.inr h8)
        · rw [if_neg h8]
          have : (c == 0) = decide (c = 0) := rfl
          rw [this]
          exact congrArg some (dec_iff (by unfold ConstP; omega))
theorem mayl_at (regs : Int) (l : List Int) (hl : l.length ≤ 2) : ∀ k, prog_may.l0 (k + 3) regs l l.length 0 = some (l.all fun r => decide (0 ≤ r ∧ r < regs)) := by
  intro k
  have one : ∀ (r : Int) (X : Option Bool) (b : Bool), X = some b → (if r < 0 then (some false) else (if r ≥ regs then (some false) else X)) = some (decide (0 ≤ r ∧ r < regs) && b) := by
    intro r X b hX
    by_cases h0 : r < 0
    · rw [if_pos h0, decide_eq_false (by omega)]; rfl
    · rw [if_neg h0]
      by_cases h1 : r ≥ regs
      · rw [if_pos h1, decide_eq_false (by omega)]; rfl
      · rw [if_neg h1, decide_eq_true (by omega), hX]; rfl
  match l, hl with
  | [], _ => unfold prog_may.l0; rfl
  | [r], _ =>
    unfold prog_may.l0
    rw [if_pos (by simp), if_pos (by decide), if_pos (by simp)]
    refine (one _ _ true ?_).trans (by simp [rd])
    rw [show wrap64 (0 + 1) = 1 by unfold wrap64; omega]
    show prog_may.l0 (k + 2) regs [r] 1 1 = _
    unfold prog_may.l0; rfl
  | [r, s], _ =>
    unfold prog_may.l0
    rw [if_pos (by simp), if_pos (by decide), if_pos (by simp)]
    refine (one _ _ (decide (0 ≤ s ∧ s < regs)) ?_).trans (by simp [rd])
    rw [show wrap64 (0 + 1) = 1 by unfold wrap64; omega]
    show prog_may.l0 (k + 2) regs [r, s] 2 1 = _
    unfold prog_may.l0
    rw [if_pos (by decide), if_pos (by decide), if_pos (by simp)]
    refine (one _ _ true ?_).trans (by simp [rd])
    rw [show wrap64 (1 + 1) = 2 by unfold wrap64; omega]
    show prog_may.l0 (k + 1) regs [r, s] 2 2 = _
    unfold prog_may.l0; rfl
theorem may_at (k : Nat) (op t a b c regs : Int) : prog_may.f (k + 4) op t a b c regs = some (decide (MayP op t a b c regs)) := by
  have no : ∀ Y : Bool, prog_may.j0 (k + 4) regs true op t a b c = some false := fun _ => by rw [prog_may.j0]; rfl
  have go : 1 ≤ op ∧ op ≤ 8 → prog_may.j0 (k + 4) regs false op t a b c = some ((asks op a b).all fun r => decide (0 ≤ r ∧ r < regs)) := by
    intro h
    rw [prog_may.j0]
    rw [if_neg (by decide), asks_at]
    have : (asks op a b).length ≤ 2 := by unfold asks; split <;> (try split) <;> simp
    exact mayl_at regs _ this k
  unfold prog_may.f
  by_cases h1 : op < 1
  · rw [if_pos h1, no true, decide_eq_false (by unfold MayP; omega)]
  rw [if_neg h1]
  by_cases h2 : op > 8
  · rw [if_pos h2, no true, decide_eq_false (by unfold MayP; omega)]
  rw [if_neg h2]
  by_cases h3 : t < 0
  · rw [if_pos h3, no true, decide_eq_false (by unfold MayP; omega)]
  rw [if_neg h3]
  by_cases h4 : t ≥ regs
  · rw [if_pos h4, no true, decide_eq_false (by unfold MayP; omega)]
  rw [if_neg h4, two_at]
  simp only [Option.bind_some, const_at]
  have hop : 1 ≤ op ∧ op ≤ 8 := by omega
  by_cases h5 : op = 3 ∨ op = 4
  · rw [if_pos (decide_eq_true h5)]
    by_cases h6 : ConstP op c
    · rw [decide_eq_true h6]
      refine (go hop).trans (congrArg some ?_)
      unfold asks
      rw [if_pos h5]
      simp only [List.all_cons, List.all_nil, Bool.and_true]
      by_cases ha : 0 ≤ a ∧ a < regs
      · rw [decide_eq_true ha, Bool.true_and]
        refine dec_iff ?_
        unfold MayP
        exact ⟨fun h => ⟨hop, by omega, ha, fun _ => h, fun h' => absurd h5 h', h6⟩, fun h => h.2.2.2.1 h5⟩
      · rw [decide_eq_false ha, Bool.false_and, decide_eq_false (fun h : MayP op t a b c regs => ha h.2.2.1)]
    · rw [decide_eq_false h6]
      refine (no true).trans ?_
      rw [decide_eq_false (fun h : MayP op t a b c regs => h6 h.2.2.2.2.2)]
  · rw [if_neg (by rw [decide_eq_false h5]; decide)]
    by_cases h7 : b = 0
    · rw [if_pos h7]
      by_cases h6 : ConstP op c
      · rw [decide_eq_true h6]
        refine (go hop).trans (congrArg some ?_)
        unfold asks
        rw [if_neg h5, if_pos hop]
        simp only [List.all_cons, List.all_nil, Bool.and_true]
        refine dec_iff ?_
        unfold MayP
        exact ⟨fun h => ⟨hop, by omega, h, fun h' => absurd h' h5, fun _ => h7, h6⟩, fun h => h.2.2.1⟩
      · rw [decide_eq_false h6]
        refine (no true).trans ?_
        rw [decide_eq_false (fun h : MayP op t a b c regs => h6 h.2.2.2.2.2)]
    · rw [if_neg h7]
      refine (no true).trans ?_
      rw [decide_eq_false (fun h : MayP op t a b c regs => h7 (h.2.2.2.2.1 h5))]
theorem refmay_at (k : Nat) (op t a b c regs : Int) : swageref08_May.f (k + 4) op t a b c regs = some (decide (MayP op t a b c regs)) := by
  have no : swageref08_May.j0 (k + 4) regs true op t a b c = some false := by rw [swageref08_May.j0]; rfl
  unfold swageref08_May.f
  by_cases h1 : op < 1
  · rw [if_pos h1, no, decide_eq_false (by unfold MayP; omega)]
  rw [if_neg h1]
  by_cases h2 : op > 8
  · rw [if_pos h2, no, decide_eq_false (by unfold MayP; omega)]
  rw [if_neg h2]
  by_cases h3 : t < 0
  · rw [if_pos h3, no, decide_eq_false (by unfold MayP; omega)]
  rw [if_neg h3]
  by_cases h4 : t ≥ regs
  · rw [if_pos h4, no, decide_eq_false (by unfold MayP; omega)]
  rw [if_neg h4]
  by_cases h5 : a < 0
  · rw [if_pos h5, no, decide_eq_false (by unfold MayP; omega)]
  rw [if_neg h5]
  by_cases h6 : a ≥ regs
  · rw [decide_eq_true h6, no, decide_eq_false (by unfold MayP; omega)]
  rw [decide_eq_false h6]
  have two : op = 3 ∨ op = 4 → swageref08_May.j1 (k + 3) regs true op t a b c = some (decide (MayP op t a b c regs)) := by
    intro h
    rw [swageref08_May.j1]
    rw [if_pos rfl]
    by_cases g1 : b ≥ 0
    · rw [if_pos g1]
      by_cases g2 : b < regs
      · rw [if_pos g2]
        have : (c == 0) = decide (c = 0) := rfl
        rw [this]
        exact congrArg some (dec_iff (by unfold MayP ConstP; omega))
      · rw [if_neg g2, decide_eq_false (by unfold MayP; omega)]
    · rw [if_neg g1, decide_eq_false (by unfold MayP; omega)]
  have cst : ¬ (op = 3 ∨ op = 4) → b = 0 → decide (ConstP op c) = decide (MayP op t a b c regs) := by
    intro h hb
    exact dec_iff ⟨fun hc => ⟨by omega, by omega, by omega, fun h' => absurd h' h, fun _ => hb, hc⟩, fun hm => hm.2.2.2.2.2⟩
  rw [swageref08_May.j0]
  rw [if_neg (by decide)]
  by_cases h7 : op = 3
  · rw [if_pos h7]; exact two (.inl h7)
  rw [if_neg h7]
  by_cases h8 : op = 4
  · rw [beq_iff_eq.2 h8]; exact two (.inr h8)
  rw [beq_eq_false_iff_ne.2 h8]
  rw [swageref08_May.j1]
  rw [if_neg (by decide)]
  by_cases h9 : b = 0
  · rw [if_pos h9]
    have hn : ¬ (op = 3 ∨ op = 4) := by omega
    have b1 : op = 5 ∨ op = 6 → swageref08_May.j2 (k + 2) true op t a b c = some (decide (MayP op t a b c regs)) := by
      intro h
      rw [swageref08_May.j2]
      rw [if_pos rfl, ← cst hn h9]
      by_cases h0 : c = 0
      · rw [if_pos h0, decide_eq_false (by unfold ConstP; omega)]
      · rw [if_neg h0, range_at]; exact congrArg some (dec_iff (by unfold ConstP; omega))
    by_cases h10 : op = 5
    · rw [if_pos h10]; exact b1 (.inl h10)
    rw [if_neg h10]
    by_cases h11 : op = 6
    · rw [beq_iff_eq.2 h11]; exact b1 (.inr h11)
    rw [beq_eq_false_iff_ne.2 h11]
    rw [swageref08_May.j2]
    rw [if_neg (by decide), ← cst hn h9]
    by_cases h12 : op = 7
    · rw [if_pos h12, range_at]; exact congrArg some (dec_iff (by unfold ConstP; omega))
    rw [if_neg h12]
    by_cases h13 : op = 8
    · rw [if_pos h13, range_at]; exact congrArg some (dec_iff (by unfold ConstP; omega))
    rw [if_neg h13]
    have : (c == 0) = decide (c = 0) := rfl
    rw [this]
    exact congrArg some (dec_iff (by unfold ConstP; omega))
  · rw [if_neg h9, decide_eq_false (fun h : MayP op t a b c regs => h9 (h.2.2.2.2.1 (by omega)))]
/-- Whether an instruction may be. -/
def mayb (regs : Int) (i : S37) : Bool := decide (MayP i.f0 i.f1 i.f2 i.f3 i.f4 regs)
theorem may_ev (regs : Int) (i : S37) : Ev (fun k => prog_may.f k i.f0 i.f1 i.f2 i.f3 i.f4 regs) (mayb regs i) :=
  ⟨4, fun k hk => by obtain ⟨j, rfl⟩ : ∃ j, k = j + 4 := ⟨k - 4, by omega⟩; exact may_at j _ _ _ _ _ _⟩
theorem refmay_ev (regs : Int) (i : S37) : Ev (fun k => swageref08_May.f k i.f0 i.f1 i.f2 i.f3 i.f4 regs) (mayb regs i) :=
  ⟨4, fun k hk => by obtain ⟨j, rfl⟩ : ∃ j, k = j + 4 := ⟨k - 4, by omega⟩; exact refmay_at j _ _ _ _ _ _⟩
/-- The first instruction that may not be. -/
def bad (regs : Int) : List S37 → Nat → Option Nat
  | [], _ => none
  | i :: l, j => if mayb regs i = true then bad regs l (j + 1) else some j
def outsOk (regs : Int) (l : List Int) : Bool := l.all fun r => decide (0 ≤ r ∧ r < regs)
def Head (ins regs : Int) (code : List S37) (outs : List Int) : Prop := (1 ≤ ins ∧ ins ≤ regs) ∧ regs ≤ 128 ∧ code.length ≤ 16384 ∧ 1 ≤ outs.length ∧ outs.length ≤ 128
instance (ins regs : Int) (code : List S37) (outs : List Int) : Decidable (Head ins regs code outs) := by unfold Head; exact inferInstance
def codeOf (regs : Int) (code : List S37) (j : Nat) : Int × Bool := match bad regs (code.drop j) j with
  | none => (0, false)
  | some m => ((m : Int), true)
def chk (ins regs : Int) (code : List S37) (outs : List Int) : Int × Bool := if Head ins regs code outs then (if outsOk regs outs = true then codeOf regs code 0 else (-1, true)) else (-1, true)
def err (x : Int × Bool) : Int × Int := (x.1, if x.2 = true then 80 else 0)
theorem codeOf_step {regs : Int} {code : List S37} {j : Nat} (h : j < code.length) : codeOf regs code j = if mayb regs (rd_T37 code j) = true then codeOf regs code (j + 1) else ((j : Int), true) := by
  unfold codeOf
  rw [drop_rdT h, bad]
  by_cases hm : mayb regs (rd_T37 code j) = true
  · rw [if_pos hm, if_pos hm]
  · rw [if_neg hm, if_neg hm]
theorem codeOf_end {regs : Int} {code : List S37} : codeOf regs code code.length = (0, false) := by
  unfold codeOf
  rw [List.drop_length]
  rfl
theorem l1_ev {ins regs : Int} {code : List S37} {outs : List Int} (hl : code.length ≤ 4611686018427387904) : ∀ (m j : Nat), j + m = code.length → Ev (fun k => prog_Check.l1 k code code.length j ins regs code outs) (err (codeOf regs code j)) := by
  intro m
  induction m with
  | zero =>
    intro j hj
    obtain rfl : j = code.length := by omega
    rw [codeOf_end]
    refine Ev.step (f := fun _ => some (0, 0)) (fun k => ?_) (Ev.now _)
    simp only [prog_Check.l1]
    rw [if_neg (by omega)]
  | succ m ih =>
    intro j hj
    have hlt : j < code.length := by omega
    refine Ev.step (f := fun k => (prog_may.f k (rd_T37 code j).f0 (rd_T37 code j).f1 (rd_T37 code j).f2 (rd_T37 code j).f3 (rd_T37 code j).f4 regs).bind fun t => if t = true then prog_Check.l1 k code code.length ((j + 1 : Nat) : Int) ins regs code outs else some ((j : Int), 80)) (fun k => ?_) ?_
    · simp only [prog_Check.l1]
      rw [if_pos (by omega), if_pos (by omega), if_pos (by omega), wrapNext hlt hl]
    · refine Ev.bind (may_ev regs _) ?_
      rw [codeOf_step hlt]
      by_cases hm : mayb regs (rd_T37 code j) = true
      · rw [if_pos hm]
        exact ev_pos hm (ih (j + 1) (by omega))
      · rw [if_neg hm]
        exact ev_neg hm (Ev.now _)
theorem l0_ev {ins regs : Int} {code : List S37} {outs : List Int} (hl : code.length ≤ 4611686018427387904) (ho : outs.length ≤ 4611686018427387904) : ∀ (m j : Nat), j + m = outs.length → Ev (fun k => prog_Check.l0 k outs outs.length j ins regs code outs) (err (if outsOk regs (outs.drop j) = true then codeOf regs code 0 else (-1, true))) := by
  intro m
  induction m with
  | zero =>
    intro j hj
    obtain rfl : j = outs.length := by omega
    rw [List.drop_length, if_pos (show outsOk regs [] = true from rfl)]
    refine Ev.step (f := fun k => prog_Check.l1 k code code.length ((0 : Nat) : Int) ins regs code outs) (fun k => ?_) (l1_ev hl code.length 0 (by omega))
    simp only [prog_Check.l0]
    rw [if_neg (by omega)]
    rfl
  | succ m ih =>
    intro j hj
    have hlt : j < outs.length := by omega
    refine Ev.step (f := fun k => if rd outs j < 0 then some (-1, 80) else if rd outs j ≥ regs then some (-1, 80) else prog_Check.l0 k outs outs.length ((j + 1 : Nat) : Int) ins regs code outs) (fun k => ?_) ?_
    · simp only [prog_Check.l0]
      rw [if_pos (by omega), if_pos (by omega), if_pos (by omega), wrapNext hlt ho]
    · rw [drop_rd hlt]
      by_cases h0 : rd outs j < 0
      · refine ev_pos h0 ?_
        rw [if_neg (by simp [outsOk]; omega)]
        exact Ev.now _
      · refine ev_neg h0 ?_
        by_cases h1 : rd outs j ≥ regs
        · refine ev_pos h1 ?_
          rw [if_neg (by simp [outsOk]; omega)]
          exact Ev.now _
        · refine ev_neg h1 ?_
          have : outsOk regs (rd outs j :: outs.drop (j + 1)) = outsOk regs (outs.drop (j + 1)) := by
            unfold outsOk
            rw [List.all_cons, decide_eq_true (by omega), Bool.true_and]
          rw [this]
          exact ih (j + 1) (by omega)
theorem check_ev {ins regs : Int} {code : List S37} {outs : List Int} (hl : code.length ≤ 4611686018427387904) (ho : outs.length ≤ 4611686018427387904) : Ev (fun k => prog_Check.f k ins regs code outs) (err (chk ins regs code outs)) := by
  have no : ¬ Head ins regs code outs → Ev (fun k => prog_Check.j0 k true ins regs code outs) (err (chk ins regs code outs)) := by
    intro h
    unfold chk
    rw [if_neg h]
    exact Ev.step (f := fun _ => some (-1, 80)) (fun k => by simp only [prog_Check.j0]; rfl) (Ev.now _)
  unfold prog_Check.f
  by_cases h1 : ins < 1
  · exact ev_pos h1 (no (by unfold Head; omega))
  refine ev_neg h1 ?_
  by_cases h2 : ins > regs
  · exact ev_pos h2 (no (by unfold Head; omega))
  refine ev_neg h2 ?_
  by_cases h3 : regs > 128
  · exact ev_pos h3 (no (by unfold Head; omega))
  refine ev_neg h3 ?_
  by_cases h4 : (code.length : Int) > 16384
  · exact ev_pos h4 (no (by unfold Head; omega))
  refine ev_neg h4 ?_
  by_cases h5 : (outs.length : Int) < 1
  · exact ev_pos h5 (no (by unfold Head; omega))
  refine ev_neg h5 ?_
  by_cases h6 : 128 < outs.length
  · rw [decide_eq_true h6]; exact no (by unfold Head; omega)
  rw [decide_eq_false h6]
  unfold chk
  rw [if_pos (show Head ins regs code outs by unfold Head; omega)]
  refine Ev.step (f := fun k => prog_Check.l0 k outs outs.length ((0 : Nat) : Int) ins regs code outs) (fun k => by simp only [prog_Check.j0]; rfl) ?_
  exact l0_ev hl ho outs.length 0 (by omega)
theorem refl1_ev {ins regs : Int} {code : List S37} {outs : List Int} (hl : code.length ≤ 4611686018427387904) : ∀ (m j : Nat), j + m = code.length → Ev (fun k => swageref08_Check.l1 k j ins regs code outs) (codeOf regs code j) := by
  intro m
  induction m with
  | zero =>
    intro j hj
    obtain rfl : j = code.length := by omega
    rw [codeOf_end]
    refine Ev.step (f := fun _ => some (0, false)) (fun k => ?_) (Ev.now _)
    simp only [swageref08_Check.l1]
    rw [if_neg (by omega)]
  | succ m ih =>
    intro j hj
    have hlt : j < code.length := by omega
    refine Ev.step (f := fun k => (swageref08_May.f k (rd_T37 code j).f0 (rd_T37 code j).f1 (rd_T37 code j).f2 (rd_T37 code j).f3 (rd_T37 code j).f4 regs).bind fun t => if t = true then swageref08_Check.l1 k ((j + 1 : Nat) : Int) ins regs code outs else some ((j : Int), true)) (fun k => ?_) ?_
    · simp only [swageref08_Check.l1]
      rw [if_pos (by omega), if_pos (by omega), wrapNext hlt hl]
    · refine Ev.bind (refmay_ev regs _) ?_
      rw [codeOf_step hlt]
      by_cases hm : mayb regs (rd_T37 code j) = true
      · rw [if_pos hm]
        exact ev_pos hm (ih (j + 1) (by omega))
      · rw [if_neg hm]
        exact ev_neg hm (Ev.now _)
theorem refl0_ev {ins regs : Int} {code : List S37} {outs : List Int} (hl : code.length ≤ 4611686018427387904) (ho : outs.length ≤ 4611686018427387904) : ∀ (m j : Nat), j + m = outs.length → Ev (fun k => swageref08_Check.l0 k j ins regs code outs) (if outsOk regs (outs.drop j) = true then codeOf regs code 0 else (-1, true)) := by
  intro m
  induction m with
  | zero =>
    intro j hj
    obtain rfl : j = outs.length := by omega
    rw [List.drop_length, if_pos (show outsOk regs [] = true from rfl)]
    refine Ev.step (f := fun k => swageref08_Check.l1 k ((0 : Nat) : Int) ins regs code outs) (fun k => ?_) (refl1_ev hl code.length 0 (by omega))
    simp only [swageref08_Check.l0]
    rw [if_neg (by omega)]
    rfl
  | succ m ih =>
    intro j hj
    have hlt : j < outs.length := by omega
    refine Ev.step (f := fun k => if rd outs j < 0 then some (-1, true) else if rd outs j ≥ regs then some (-1, true) else swageref08_Check.l0 k ((j + 1 : Nat) : Int) ins regs code outs) (fun k => ?_) ?_
    · simp only [swageref08_Check.l0]
      rw [if_pos (by omega), if_pos (by omega), wrapNext hlt ho]
    · rw [drop_rd hlt]
      by_cases h0 : rd outs j < 0
      · refine ev_pos h0 ?_
        rw [if_neg (by simp [outsOk]; omega)]
        exact Ev.now _
      · refine ev_neg h0 ?_
        by_cases h1 : rd outs j ≥ regs
        · refine ev_pos h1 ?_
          rw [if_neg (by simp [outsOk]; omega)]
          exact Ev.now _
        · refine ev_neg h1 ?_
          have : outsOk regs (rd outs j :: outs.drop (j + 1)) = outsOk regs (outs.drop (j + 1)) := by
            unfold outsOk
            rw [List.all_cons, decide_eq_true (by omega), Bool.true_and]
          rw [this]
          exact ih (j + 1) (by omega)
theorem refcheck_ev {ins regs : Int} {code : List S37} {outs : List Int} (hl : code.length ≤ 4611686018427387904) (ho : outs.length ≤ 4611686018427387904) : Ev (fun k => swageref08_Check.f k ins regs code outs) (chk ins regs code outs) := by
  have no : ¬ Head ins regs code outs → Ev (fun k => swageref08_Check.j0 k true ins regs code outs) (chk ins regs code outs) := by
    intro h
    unfold chk
    rw [if_neg h]
    exact Ev.step (f := fun _ => some (-1, true)) (fun k => by simp only [swageref08_Check.j0]; rfl) (Ev.now _)
  unfold swageref08_Check.f
  by_cases h1 : ins < 1
  · exact ev_pos h1 (no (by unfold Head; omega))
  refine ev_neg h1 ?_
  by_cases h2 : ins > regs
  · exact ev_pos h2 (no (by unfold Head; omega))
  refine ev_neg h2 ?_
  by_cases h3 : regs > 128
  · exact ev_pos h3 (no (by unfold Head; omega))
  refine ev_neg h3 ?_
  by_cases h4 : (code.length : Int) > 16384
  · exact ev_pos h4 (no (by unfold Head; omega))
  refine ev_neg h4 ?_
  by_cases h5 : (outs.length : Int) < 1
  · exact ev_pos h5 (no (by unfold Head; omega))
  refine ev_neg h5 ?_
  by_cases h6 : 128 < outs.length
  · rw [decide_eq_true h6]; exact no (by unfold Head; omega)
  rw [decide_eq_false h6]
  unfold chk
  rw [if_pos (show Head ins regs code outs by unfold Head; omega)]
  refine Ev.step (f := fun k => swageref08_Check.l0 k ((0 : Nat) : Int) ins regs code outs) (fun k => by simp only [swageref08_Check.j0]; rfl) ?_
  exact refl0_ev hl ho outs.length 0 (by omega)
theorem live_at : swagelaw08_live.f 12 = some true := by decide +kernel
theorem live_ev : Ev (fun k => swagelaw08_live.f k) true := Ev.of (fun k => swagelaw08_live.mono k) live_at
end Go.Proofs.YtkknkdmdglncoaaDoor.PlainProg
end

section
/- The law ProgChecks, over lists. -/
namespace Go.Proofs.YtkknkdmdglncoaaDoor.Pure
open Go.RowKit Go.Proofs.YtkknkdmdglncoaaDoorW.PrintWords Go.Proofs.YtkknkdmdglncoaaDoorW.PrintLast Go.Proofs.YtkknkdmdglncoaaDoor.XA Go.Proofs.YtkknkdmdglncoaaDoor.SaidProgChecks Go.Proofs.YtkknkdmdglncoaaDoor.PlainProg Go.Proofs.YtkknkdmdglncoaaDoor.Evs
set_option linter.unusedVariables false
set_option linter.unusedSimpArgs false
theorem chk_ok {ins regs : Int} {code : List S37} {outs : List Int} (h : (chk ins regs code outs).2 = false) : (chk ins regs code outs).1 = 0 := by
  unfold chk at *
  split at h
  · split at h
    · unfold codeOf at *
      split at h
      · rename_i h1 h2 _ h3
        rw [if_pos h1, if_pos h2]
      · cases h
    · cases h
  · cases h
theorem ProgChecks : SaidProgChecks.Pure := by
  intro x hx
  have hl : x.f2.length ≤ 4611686018427387904 := by have := hx.2.2.1.1; omega
  have ho : x.f3.length ≤ 4611686018427387904 := by have := hx.2.2.2.1; omega
  apply Ev.rounds
  unfold swagelaw08_ProgChecks.f
  refine Ev.bind live_ev (ev_pos rfl ?_)
  have yes : Ev (fun k => swagelaw08_ProgChecks.j0 k true x.f0 x.f1 x.f2 x.f3) true := Ev.step (f := fun _ => some true) (fun k => by simp only [swagelaw08_ProgChecks.j0]; rfl) (Ev.now _)
  by_cases h1 : (x.f2.length : Int) > 20000
  · exact ev_pos h1 yes
  refine ev_neg h1 ?_
  by_cases h2 : 20000 < x.f3.length
  · rw [decide_eq_true h2]; exact yes
  rw [decide_eq_false h2]
  refine Ev.step (f := fun k => (prog_Check.f k x.f0 x.f1 x.f2 x.f3).bind fun bt1 => ((swageref08_Check.f k x.f0 x.f1 x.f2 x.f3).bind fun bt2 => (if bt2.2 = true then (if bt1.1 = bt2.1 then (if bt1.2 = 80 then ((swagelaw08_live.f k).bind fun t => (some t)) else (some false)) else (some false)) else (if bt1.1 = 0 then (some (bt1.2 == 0)) else (some false))))) (fun k => by simp only [swagelaw08_ProgChecks.j0]; rfl) ?_
  refine Ev.bind (check_ev hl ho) (Ev.bind (refcheck_ev hl ho) ?_)
  unfold err
  cases hc : (chk x.f0 x.f1 x.f2 x.f3).2 with
  | true =>
    refine ev_pos rfl (ev_pos rfl (ev_pos rfl (Ev.bind live_ev (Ev.now _))))
  | false =>
    rw [chk_ok hc]
    refine ev_neg (by decide) (ev_pos rfl ?_)
    exact Ev.now _
end Go.Proofs.YtkknkdmdglncoaaDoor.Pure
end

section
/- The row and the card of the law ProgChecks, for every input: out of the pure statement and the walk. No condition. -/
namespace Go.Proofs.YtkknkdmdglncoaaDoor.progChecks
open Go.ChangeShapes Go.WideShapes Go.ChangeAt Go.RowKit Go.Proofs.YtkknkdmdglncoaaDoorW.PrintWords Go.Proofs.YtkknkdmdglncoaaDoor.Opn Go.Proofs.YtkknkdmdglncoaaDoor.XA Go.Proofs.YtkknkdmdglncoaaDoor.SaidProgChecks
open Go.ChangeMaps (open_string shut_string)
set_option linter.unusedVariables false
theorem own : ownKnob Tryd.prog.godebug = none := by kernel_rfl
theorem laidOut : laidOutB Tryd.prog = true := by kernel_rfl
set_option maxRecDepth 100000 in
theorem contract (H : Type) (enc : TypeId × Value → H) (W : World) (base : Nat) (args : Array Value) (ds gs : List (DataW H)) (before : List MemPlace)
    (hval0 : ∀ (j : Nat) t v, Tryd.f3.params[j]? = some t → args[j]? = some v → Value.okWide Tryd.prog W .any base t v)
    (hW : DataW.Whole enc Tryd.prog Tryd.f3.params.toList Rows.progChecksSpec.vars false W args.toList ds gs before)
    (hsz0 : (DataW.weightsEach Tryd.prog (Tryd.f3.params.toList ++ Rows.progChecksSpec.plain.varTypes Tryd.prog) (ds ++ gs)).all (· ≤ reachBytes) = true) :
    Calls Tryd.prog 3 args W fun e W' => ∃ v, e = .returned v ∧ Rows.progChecksSpec.post enc Tryd.prog Tryd.f3 false true false false W args v W' := by
  have hsz : (DataW.weightsEach Tryd.prog (Tryd.f3.params.toList ++ Rows.progChecksSpec.plain.varTypes Tryd.prog) (ds ++ gs)).all (· ≤ reachBytes) = true := hsz0
  have hval : ∀ (j : Nat) t v, Tryd.f3.params[j]? = some t → args[j]? = some v → Value.okWide Tryd.prog W .any base t v := hval0
  have hW' := hW
  obtain ⟨p, q, hA0, hV, rfl, hfz, hnd⟩ := hW
  have hA : DataW.TrodAll enc Tryd.prog W 0 (fun _ => true) true Tryd.f3.params.toList args.toList ds p := hA0
  rw [Tryd.params3] at hA hval hsz
  obtain ⟨v0, vs0, d0, ds0, p0, q0, hargs, rfl, rfl, h0, r0⟩ := trodAll_cons hA
  obtain ⟨rfl, rfl, rfl⟩ := trodAll_nil r0
  obtain rfl : args = #[v0] := by cases args; simp_all
  obtain ⟨rfl, rfl⟩ := trodVars_none hV
  have lt0 := trod_lt h0
  obtain ⟨⟨cs0⟩, rfl, _⟩ := okWide_struct Tryd.underlying25 (hval 0 25 v0 rfl rfl)
  obtain ⟨x0, hK00, w0⟩ := opened (opnS25) hsz (j := 0) (t := 25) rfl rfl h0
  have hK0 : k25.K W x0 cs0 := hK00
  clear hK00
  obtain ⟨_, _, rfl, rfl, ⟨_, _, rfl, rfl, ⟨_, _, rfl, ⟨A0_2, c0_2, rfl, hl0_2, hC0_2⟩, ⟨A0_3, c0_3, rfl, hl0_3, hC0_3⟩⟩⟩⟩ := hK0
  clear hA0 hval0 hsz0 hsz
  obtain ⟨k, h⟩ := Pure.ProgChecks x0 w0
  refine (swagelaw08_ProgChecks.calls k x0.f0 x0.f1 A0_2 c0_2 x0.f2 A0_3 c0_3 x0.f3 true W hC0_2 hl0_2 hC0_3 hl0_3 (⟨rfl⟩) h).mono fun e W' he_ => ?_
  obtain ⟨rfl, bel⟩ := he_
  exact ⟨_, rfl, _, _, _, [], _, [], hW', trodAll_mk1 (shut_bool Tryd.underlying4 _), (trodAll_cons_mk (Below.trod laidOut (by kernel_rfl) (of_decide_eq_true (by kernel_rfl)) h0 bel lt0) trodAll_mk0), rfl, bel.frame _, fun h => by cases h⟩
/-- The cells of a datum that is whole numbers and structs of them. -/
def flat : Nat → DataW Unit → List Value
  | 0, _ => []
  | _ + 1, .lit (.int k n) => [.int k n]
  | m + 1, .agg l => (l.map (flat m)).flatten
  | _ + 1, _ => []
/-- A world for the witness: the settled one, the listed variables holding what they hold. -/
noncomputable def laidWorld (os : Os) : World :=
  { World.holding Tryd.prog os ⟨#[], #[], []⟩ with heap := ((((World.holding Tryd.prog os ⟨#[], #[], []⟩).heap.modify ((Tryd.prog.globalNamed "math/bits.deBruijn32tab").getD 0) fun
      | .cells _ t frozen => .cells (flat 5 Rows.laid_math_bits_deBruijn32tab).toArray t frozen
      | o => o).modify ((Tryd.prog.globalNamed "math/bits.deBruijn64tab").getD 0) fun
      | .cells _ t frozen => .cells (flat 5 Rows.laid_math_bits_deBruijn64tab).toArray t frozen
      | o => o).modify ((Tryd.prog.globalNamed "internal/strconv.uint64pow10").getD 0) fun
      | .cells _ t frozen => .cells (flat 5 Rows.laid_internal_strconv_uint64pow10).toArray t frozen
      | o => o) }
theorem laid_met (os : Os) : laidMet Tryd.prog Rows.progChecksRow.laid ((laidWorld os).forCall (fun _ _ => 0) ⟨#[], #[.agg #[.int .i64 0, .int .i64 0, .slice none 0 0, .slice none 0 0]], []⟩).memory :=
  laidMet_of_run' 8 (by kernel_rfl) (by kernel_rfl)
theorem reads (os : Os) {H : Type} (enc : TypeId × Value → H) : ∃ places, DataW.whole enc Tryd.prog ((laidWorld os).forCall (fun _ _ => 0) ⟨#[], #[.agg #[.int .i64 0, .int .i64 0, .slice none 0 0, .slice none 0 0]], []⟩).memory Tryd.f3.params.toList Rows.progChecksSpec.vars false (#[.agg #[.int .i64 0, .int .i64 0, .slice none 0 0, .slice none 0 0]] : Array Value).toList 8 = some ([.agg [.lit (.int .i64 0), .lit (.int .i64 0), .nil, .nil]], [], places) :=
  ⟨[], by kernel_rfl⟩
set_option maxRecDepth 100000 in
theorem lifted (os : Os) (started : os.Started) (H : Type) (enc : TypeId × Value → H) (F : Stop.Interp) :
    ReturnsInHanded {} Tryd.checked os 3 .any ((OpenSpec.ofChange Rows.progChecksSpec).preRow enc Tryd.prog Tryd.f3 Rows.progChecksRow.domain false Rows.progChecksRow.laid) (((OpenSpec.ofChange Rows.progChecksSpec).at F).post enc Tryd.prog Tryd.f3 false true false false) := by
  obtain ⟨places, hx⟩ := reads os enc
  refine returnsInHanded_of_row (C := Tryd.checked) (s := OpenSpec.ofChange Rows.progChecksSpec) own started (by kernel_rfl) Tryd.func3
    (witness_row_at (enc := enc) (C := Tryd.checked) false (laidWorld os) #[.agg #[.int .i64 0, .int .i64 0, .slice none 0 0, .slice none 0 0]] rfl (by kernel_rfl) (by kernel_rfl) (by kernel_rfl)
      (OpenSpec.preRow_of_cond 8 hx (by kernel_rfl) (fun k hk => by cases hk) (by kernel_rfl) (laid_met os))) ?_
  intro W base args ds gs before hval hW _ _ hsz _ _ _
  exact contract H enc W base args ds gs before hval hW hsz
theorem said : Rows.ProgChecksSaid :=
  OpenClaim.holds_of_cond 3 Tryd.f3 rfl rfl rfl rfl rfl rfl rfl ⟨rfl, rfl, rfl, rfl, rfl⟩ rfl rfl rfl rfl rfl (by kernel_rfl) Tryd.func3 (by kernel_rfl)
    (of_decide_eq_true (by kernel_rfl)) (by unfold Func.isWrapper; first | (rw [if_pos (by decide +kernel)]; kernel_rfl) | (rw [if_neg (by decide +kernel)]; exact ⟨rfl, rfl⟩))
    (fun os started H enc _ F => by rw [OpenClaim.pre_eq_preRow]; exact lifted os started H enc F)
theorem plain (f : FuncId) (fn : Func) (hf : Tryd.pinned.checked.prog.funcNamed "swage/swagelaw08.ProgChecks" = some f) (hfn : Tryd.pinned.checked.prog.funcs[f]? = some fn) :
    true = Tryd.pinned.checked.prog.looks [] ∧ ∀ (j : Nat) t, fn.params[j]? = some t → Tryd.pinned.checked.prog.wantsStandIn t = false := by
  obtain rfl : f = 3 := Option.some.inj ((show Tryd.prog.funcNamed "swage/swagelaw08.ProgChecks" = some 3 by kernel_rfl).symm.trans hf) |>.symm
  obtain rfl : fn = Tryd.f3 := (Option.some.inj (Tryd.func3.symm.trans hfn)).symm
  refine ⟨by kernel_rfl, fun j t ht => ?_⟩
  rw [Tryd.params3] at ht
  have hm := Array.mem_of_getElem? ht
  have hall : (([25] : List Nat).all fun t => !Tryd.prog.wantsStandIn t) = true := by kernel_rfl
  have := List.all_eq_true.1 hall t (by simpa using hm)
  exact (by simpa using this : Tryd.prog.wantsStandIn t = false)
theorem card : Rows.ProgChecksCardSaid :=
  Claim7.holds_tied_plain_at .later [] _ _ _ _ said (fun _ h => by cases h) (by kernel_rfl) (fun _ h => by cases h) progChecks_row_tie rfl ⟨rfl, rfl⟩ (by kernel_rfl) rfl plain (by kernel_rfl)
#print axioms card
end Go.Proofs.YtkknkdmdglncoaaDoor.progChecks
namespace Go.Proofs.YtkknkdmdglncoaaDoor
/-- The card, under a short name, for the claim. -/
theorem progChecks_holds : Rows.ProgChecksCardSaid := progChecks.card
end Go.Proofs.YtkknkdmdglncoaaDoor
end
