/- Part 6 of the proof of the law SplitLaid for every input: words, walks and plain laws. No condition. -/
import Derived.Test.YtakmkhokbcjapaaDoorKSplitLaid5
section
namespace Go.Proofs.YtakmkhokbcjapaaDoor.XA
open Go.Proofs.YtakmkhokbcjapaaDoor.Lift Go.RowKit Go.Proofs.YtakmkhokbcjapaaDoorW.PrintWords Go.Proofs.YtakmkhokbcjapaaDoorW.PrintLast Go.Proofs.YtakmkhokbcjapaaDoorW.PrintMore
attribute [local go_sem] max2_int min2_int max_two min_two max_three min_three max_four min_four   -- for this text's walks alone
set_option linter.unusedVariables false
set_option linter.unusedSimpArgs false

/-! ### swagelaw21_alike_1: function 44 -/
def swagelaw21_alike_1.f (k : Nat) (a0_0 : Bool) (l0_1 : List Int) (a1_0 : Bool) (l1_1 : List Int) : Option (Bool) := (integer_Int_Cmp.f k a0_0 l0_1 a1_0 l1_1).bind fun t713 => (some (t713 == 0))
set_option maxHeartbeats 8000000 in
set_option maxRecDepth 100000 in
theorem swagelaw21_alike_1.calls (k : Nat) (a0_0 : Bool) (A0_1 : Option Addr) (c0_1 : Nat) (l0_1 : List Int) (a1_0 : Bool) (A1_1 : Option Addr) (c1_1 : Nat) (l1_1 : List Int) (r : Bool) (w : World) (hr0_1 : Kd.C (Kd.int .u32) w A0_1 l0_1.length l0_1) (hc0_1 : l0_1.length ≤ c0_1) (hr1_1 : Kd.C (Kd.int .u32) w A1_1 l1_1.length l1_1) (hc1_1 : l1_1.length ≤ c1_1) (h : swagelaw21_alike_1.f k a0_0 l0_1 a1_0 l1_1 = some r) :
  Calls Tryd.prog 44 #[.agg #[.bool a0_0, .slice A0_1 l0_1.length c0_1], .agg #[.bool a1_0, .slice A1_1 l1_1.length c1_1]] w fun e w' => e = .returned (.bool r) ∧ Below w.heap.size w w' := by
 have hu39 := Tryd.underlying39
 have HR0_1 := Aside0.mk hr0_1
 have HC0_1 := Aside0.mk hc0_1
 clear hr0_1 hc0_1
 have HR1_1 := Aside0.mk hr1_1
 have HC1_1 := Aside0.mk hc1_1
 clear hr1_1 hc1_1
 have HB := Aside0.mk (Below.refl w.heap.size w)
 have H : ((integer_Int_Cmp.f k a0_0 l0_1 a1_0 l1_1).bind fun t713 => (some (t713 == 0))) = some r := h
 clear h
 replace H := Option.bind_eq_some_iff.mp H
 obtain ⟨t713, A30, H⟩ := H
 replace H : (some (t713 == 0)) = some r := H
 have A3 := Aside0.mk A30
 clear A30
 obtain rfl := Option.some.inj H
 go_enter Tryd.func44, Tryd.ntmps44
 go_wp2_with (first | ((with_reducible refine gate_dst (N := 2) rfl ?_); refine box_event ?hg (N := 2) ?hd (cs := #[.bool a0_0, .slice A0_1 l0_1.length c0_1]) (t := 39) ?hr ?_; (case hd => rfl); (case hg => rfl); (case hr => first | (go_simp; done) | (go_simp; rfl)); intro gb711 hg w4 hbox hb; have n0_ := Aside0.mk (below_step (lB HB) hb); have n1_ := Aside0.mk (hbox); have n2_ := Aside0.mk ((by rw [hg]; exact (below_size (lB HB)) : w.heap.size ≤ gb711)); have n3_ := Aside0.mk ((by rw [hg]; exact (below_size (lB HB)) : w.heap.size ≤ gb711)); clear HB; have HB := n0_; have BK711 := n1_; have GW711 := n2_; have GE711 := n3_; clear n0_ n1_ n2_ n3_; clear hb hbox hg) | ((with_reducible refine gate_dst (N := 3) rfl ?_); refine box_event ?hg (N := 3) ?hd (cs := #[.bool a1_0, .slice A1_1 l1_1.length c1_1]) (t := 39) ?hr ?_; (case hd => rfl); (case hg => rfl); (case hr => first | (go_simp; done) | (go_simp; rfl)); intro gb712 hg w5 hbox hb; have n0_ := Aside0.mk (blk_below (g := gb711) (o := .cells #[.bool a0_0, .slice A0_1 l0_1.length c0_1] 39 (0, 0)) (lK BK711) hb); have n1_ := Aside0.mk (below_step (by repeat (first | (with_reducible first | exact HB.out | apply below_alloc | apply pw_below_drewN | apply below_drew1 | refine below_set ?_ GE711.out) | exact HB.out)) hb); have n2_ := Aside0.mk (hbox); have n3_ := Aside0.mk ((by rw [hg]; exact (below_size (by repeat (first | (with_reducible first | exact HB.out | apply below_alloc | apply pw_below_drewN | apply below_drew1 | refine below_set ?_ GE711.out) | exact HB.out))) : w.heap.size ≤ gb712)); have n4_ := Aside0.mk ((by rw [hg]; exact (below_size (by repeat (first | (with_reducible first | exact HB.out | apply below_alloc | apply pw_below_drewN | apply below_drew1 | refine below_set ?_ GE711.out) | exact HB.out))) : w.heap.size ≤ gb712)); have n5_ := Aside0.mk ((by rw [hg]; exact Nat.ne_of_lt (blk_lt (g := gb711) (o := .cells #[.bool a0_0, .slice A0_1 l0_1.length c0_1] 39 (0, 0)) (lK BK711)) : gb711 ≠ gb712)); have n6_ := Aside0.mk ((by rw [hg]; exact Nat.ne_of_gt (blk_lt (g := gb711) (o := .cells #[.bool a0_0, .slice A0_1 l0_1.length c0_1] 39 (0, 0)) (lK BK711)) : gb712 ≠ gb711)); clear BK711; clear HB; have BK711 := n0_; have HB := n1_; have BK712 := n2_; have GW712 := n3_; have GE712 := n4_; have NB711_712 := n5_; have NB712_711 := n6_; clear n0_ n1_ n2_ n3_ n4_ n5_ n6_; clear hb hbox hg; have hnb6 := NB711_712.out; have hnc6 := NB712_711.out; have hcz7_0 : w5.cell? ⟨gb711, 0, none⟩ = some (.bool a0_0) := (blk_cell BK711.out 0).trans rfl; have hcz7_1 : w5.cell? ⟨gb711, 1, none⟩ = some (.slice A0_1 l0_1.length c0_1) := (blk_cell BK711.out 1).trans rfl; have hfz7_0 := blk_frozen BK711.out 0; have hfz7_1 := blk_frozen BK711.out 1; have hcz8_0 : w5.cell? ⟨gb712, 0, none⟩ = some (.bool a1_0) := (blk_cell BK712.out 0).trans rfl; have hcz8_1 : w5.cell? ⟨gb712, 1, none⟩ = some (.slice A1_1 l1_1.length c1_1) := (blk_cell BK712.out 1).trans rfl; have hfz8_0 := blk_frozen BK712.out 0; have hfz8_1 := blk_frozen BK712.out 1) | ((with_reducible refine gate_callee (f := 45) rfl ?_); refine goesL_ (some 7) rfl rfl Tryd.func45 (by kernel_rfl) rfl #[.agg #[.bool a0_0, .slice A0_1 l0_1.length c0_1], .agg #[.bool a1_0, .slice A1_1 l1_1.length c1_1]] rfl (by (try simp only [List.map_toArray, List.map_cons, List.map_nil]); first | done | rfl | (simp only [List.length_drop, List.length_take]; rfl)) ?_; (with_reducible refine (integer_Int_Cmp.calls k a0_0 _ _ l0_1 a1_0 _ _ l1_1 t713 _ ?side1 ?side2 ?side3 ?side4 A3.out).mono ?_); (case side1 => repeat (first | exact (Kd.C_below HR0_1.out HB.out) | (with_reducible refine Kd.C_alloc ?_ _) | (with_reducible refine Kd.C_drewN ?_ _) | (with_reducible refine Kd.C_drew ?_))); (case side2 => exact HC0_1.out); (case side3 => repeat (first | exact (Kd.C_below HR1_1.out HB.out) | (with_reducible refine Kd.C_alloc ?_ _) | (with_reducible refine Kd.C_drewN ?_ _) | (with_reducible refine Kd.C_drew ?_))); (case side4 => exact HC1_1.out); rintro e w9 ⟨rfl, hb⟩; refine ⟨_, rfl, ?_⟩; have n0_ := Aside0.mk (blk_below (g := gb711) (o := .cells #[.bool a0_0, .slice A0_1 l0_1.length c0_1] 39 (0, 0)) (lK BK711) hb); have n1_ := Aside0.mk (blk_below (g := gb712) (o := .cells #[.bool a1_0, .slice A1_1 l1_1.length c1_1] 39 (0, 0)) (lK BK712) hb); have n2_ := Aside0.mk (below_step (by repeat (first | (with_reducible first | exact HB.out | apply below_alloc | apply pw_below_drewN | apply below_drew1 | refine below_set ?_ GE711.out | refine below_set ?_ GE712.out) | exact HB.out)) hb); clear BK711; clear BK712; clear HB; have BK711 := n0_; have BK712 := n1_; have HB := n2_; clear n0_ n1_ n2_; (try clear hb); (try clear hb2); (try clear hk); (try clear hi)))
 go_ret
 exact ⟨by first | rfl | (simp [errW_none, errW_some] <;> rfl) | (simp [*, errW_none, errW_some] <;> rfl), by repeat (first | (with_reducible first | exact HB.out | apply below_alloc | apply pw_below_drewN | apply below_drew1 | refine below_set ?_ GE711.out | refine below_set ?_ GE712.out) | exact HB.out)⟩

/-! ### integer_Int: function 43 -/
def integer_Int.l0 : Nat → List (S39) → List (S39) → Int → Int → Option (Bool)
 | 0, _, _, _, _ => none
 | k + 1, x1, x15, x16, x17 => if x17 < x16 then (if 0 ≤ x17 then (if x17 < (x15.length : Int) then (if x17 < (x1.length : Int) then ((swagelaw21_alike_1.f k ((rd_T39 x15 x17).f0) ((rd_T39 x15 x17).f1) ((rd_T39 x1 x17).f0) ((rd_T39 x1 x17).f1)).bind fun t718 => (if t718 = true then (integer_Int.l0 k x1 x15 x16 (wrap64 (x17 + 1))) else (some false))) else (none)) else (none)) else (none)) else (some true)
def integer_Int.f (k : Nat) (l0 : List (S39)) (l1 : List (S39)) : Option (Bool) := if (l0.length : Int) = (l1.length : Int) then (integer_Int.l0 k l1 l0 (l0.length : Int) 0) else (some false)
set_option maxHeartbeats 8000000 in
set_option maxRecDepth 100000 in
theorem integer_Int.calls (k : Nat) (A0 : Option Addr) (c0 : Nat) (l0 : List (S39)) (A1 : Option Addr) (c1 : Nat) (l1 : List (S39)) (r : Bool) (w : World) (hr0 : Kd.C k39 w A0 l0.length l0) (hc0 : l0.length ≤ c0) (hr1 : Kd.C k39 w A1 l1.length l1) (hc1 : l1.length ≤ c1) (h : integer_Int.f k l0 l1 = some r) :
  Calls Tryd.prog 43 #[.slice A0 l0.length c0, .slice A1 l1.length c1, .func (.func 44) #[] #[]] w fun e w' => e = .returned (.bool r) ∧ Below w.heap.size w w' := by
 have hu39 := Tryd.underlying39
 have HR0 := Aside0.mk hr0
 have HC0 := Aside0.mk hc0
 clear hr0 hc0
 have HR1 := Aside0.mk hr1
 have HC1 := Aside0.mk hc1
 clear hr1 hc1
 have HB := Aside0.mk (Below.refl w.heap.size w)
 have H : (if (l0.length : Int) = (l1.length : Int) then (integer_Int.l0 k l1 l0 (l0.length : Int) 0) else (some false)) = some r := h
 clear h
 by_cases c3 : (l0.length : Int) = (l1.length : Int)
 ·rw [if_pos c3] at H
  have c3b0 : ((l0.length : Int) == (l1.length : Int)) = true := beq_iff_eq.mpr c3
  have c3b1 : ((l0.length : Int) != (l1.length : Int)) = false := bne_eq_false_iff_eq.mpr c3
  have c3b2 : (l0.length == l1.length) = true := by first | simpa using c3 | (simp at c3 ⊢; omega)
  clear c3
  have H' := Aside0.mk H
  clear H
  go_enter Tryd.func43, Tryd.ntmps43
  go_wp2
  go_loopg [17] k (fun kq v17 w' => ∃ (x17_1 : Int), v17 = .int .i64 x17_1 ∧ Aside0 (integer_Int.l0 kq l1 l0 (l0.length : Int) x17_1 = some r) ∧ Aside0 (kq ≤ k) ∧ Aside0 (Below w.heap.size w w'))
  case atStart => exact ⟨(0), (by first | rfl | (simp; done) | (simp [*]; done)), H', ⟨Nat.le_refl _⟩, ⟨by repeat (first | (with_reducible first | exact HB.out | apply below_alloc | apply pw_below_drewN | apply below_drew1) | exact HB.out)⟩⟩
  case round =>
   clear H'
   try clear c1
   try clear c3
   obtain ⟨x17_1, rfl, HA, HK1, HB⟩ := hrel
   cases gk with
   | zero => exact absurd HA.out (by simp [integer_Int.l0])
   | succ k1 =>
    have H := HA.out
    clear HA
    simp only [integer_Int.l0] at H
    by_cases c4 : x17_1 < (l0.length : Int)
    ·rw [if_pos c4] at H
     have c4b0 : decide (x17_1 < (l0.length : Int)) = true := decide_eq_true c4
     clear c4
     by_cases c5 : 0 ≤ x17_1
     ·rw [if_pos c5] at H
      have c5b0 : decide (0 ≤ x17_1) = true := decide_eq_true c5
      clear c5
      by_cases c6 : x17_1 < (l0.length : Int)
      ·rw [if_pos c6] at H
       have c6b0 : decide (x17_1 < (l0.length : Int)) = true := decide_eq_true c6
       clear c6
       by_cases c7 : x17_1 < (l1.length : Int)
       ·rw [if_pos c7] at H
        have c7b0 : decide (x17_1 < (l1.length : Int)) = true := decide_eq_true c7
        clear c7
        replace H := Option.bind_eq_some_iff.mp H
        obtain ⟨t718, A80, H⟩ := H
        replace H : (if t718 = true then (integer_Int.l0 k1 l1 l0 (l0.length : Int) (wrap64 (x17_1 + 1))) else (some false)) = some r := H
        have A8 := Aside0.mk A80
        clear A80
        by_cases c9 : t718 = true
        ·subst c9
         have H1 : (integer_Int.l0 k1 l1 l0 (l0.length : Int) (wrap64 (x17_1 + 1))) = some r := by rw [if_pos rfl] at H; exact H
         clear H
         have H := H1
         clear H1
         have H' := Aside0.mk H
         clear H
         have p714 : 0 ≤ (x17_1 : Int) := of_decide_eq_true (by first | (with_reducible assumption) | assumption)
         have q714 : x17_1 < (l0.length : Int) := of_decide_eq_true (by first | (with_reducible assumption) | assumption)
         obtain ⟨ad714, A714_1, c714_1, e714, hx714_0, hx714_1, hl714_1, hi714_1⟩ := at_T39 HR0.out x17_1 p714 q714
         cases e714
         replace hx714_0 := (HB.out.cell (World.block_lt_of_cell? w _ hx714_0)).trans hx714_0
         replace hx714_1 := (HB.out.cell (World.block_lt_of_cell? w _ hx714_1)).trans hx714_1
         have HR714_1 := Aside0.mk hi714_1
         have HC714_1 := Aside0.mk hl714_1
         clear hi714_1 hl714_1
         replace p714 := eq_true p714
         replace q714 := eq_true q714
         go_wp2_with (first | ((with_reducible refine gate_dst (N := 8) rfl ?_); refine box_event ?hg (N := 8) ?hd (cs := #[.bool false, .slice none 0 0]) (t := 39) ?hr ?_; (case hd => rfl); (case hg => rfl); (case hr => first | (go_simp; done) | (go_simp; rfl)); intro gb715 hg w10 hbox hb; have n0_ := Aside0.mk (below_step (lB HB) hb); have n1_ := Aside0.mk (hbox); have n2_ := Aside0.mk ((by rw [hg]; exact (below_size (lB HB)) : w.heap.size ≤ gb715)); have n3_ := Aside0.mk ((by rw [hg]; exact (below_size (lB HB)) : w.heap.size ≤ gb715)); clear HB; have HB := n0_; have BK715 := n1_; have GW715 := n2_; have GE715 := n3_; clear n0_ n1_ n2_ n3_; clear hb hbox hg; have hcz11_0 : w10.cell? ⟨gb715, 0, none⟩ = some (.bool false) := (blk_cell BK715.out 0).trans rfl; have hcz11_1 : w10.cell? ⟨gb715, 1, none⟩ = some (.slice none 0 0) := (blk_cell BK715.out 1).trans rfl; have hfz11_0 := blk_frozen BK715.out 0; have hfz11_1 := blk_frozen BK715.out 1; have p716 : 0 ≤ (x17_1 : Int) := of_decide_eq_true (by first | (with_reducible assumption) | assumption); have q716 : x17_1 < (l1.length : Int) := of_decide_eq_true (by first | (with_reducible assumption) | assumption); obtain ⟨ad716, A716_1, c716_1, e716, hx716_0, hx716_1, hl716_1, hi716_1⟩ := at_T39 HR1.out x17_1 p716 q716; cases e716; have hn716_0 : ad716.block ≠ gb715 := Nat.ne_of_lt (Nat.lt_of_lt_of_le (by have := World.block_lt_of_cell? _ _ hx716_0; first | rwa [add_block] at this | exact this) GW715.out); have hn716_1 : ad716.block ≠ gb715 := Nat.ne_of_lt (Nat.lt_of_lt_of_le (by have := World.block_lt_of_cell? _ _ hx716_0; first | rwa [add_block] at this | exact this) GW715.out); replace hx716_0 := (HB.out.cell (World.block_lt_of_cell? w _ hx716_0)).trans hx716_0; replace hx716_1 := (HB.out.cell (World.block_lt_of_cell? w _ hx716_1)).trans hx716_1; have HR716_1 := Aside0.mk hi716_1; have HC716_1 := Aside0.mk hl716_1; clear hi716_1 hl716_1; replace hx716_0 := (cell_far (p := ⟨gb715, 0, none⟩) (by first | (rw [add_block]; exact hn716_0) | (show (Addr.add _ _).block ≠ _; rw [add_block]; exact hn716_0) | exact hn716_0) (.bool ((rd_T39 l0 x17_1).f0))).trans hx716_0; replace hx716_1 := (cell_far (p := ⟨gb715, 0, none⟩) (by first | (rw [add_block]; exact hn716_0) | (show (Addr.add _ _).block ≠ _; rw [add_block]; exact hn716_0) | exact hn716_0) (.bool ((rd_T39 l0 x17_1).f0))).trans hx716_1; replace hx716_0 := (cell_far (p := ⟨gb715, 1, none⟩) (by first | (rw [add_block]; exact hn716_1) | (show (Addr.add _ _).block ≠ _; rw [add_block]; exact hn716_1) | exact hn716_1) (.slice A714_1 ((rd_T39 l0 x17_1).f1).length c714_1)).trans hx716_0; replace hx716_1 := (cell_far (p := ⟨gb715, 1, none⟩) (by first | (rw [add_block]; exact hn716_1) | (show (Addr.add _ _).block ≠ _; rw [add_block]; exact hn716_1) | exact hn716_1) (.slice A714_1 ((rd_T39 l0 x17_1).f1).length c714_1)).trans hx716_1; clear hn716_0; clear hn716_1; replace p716 := eq_true p716; replace q716 := eq_true q716) | ((with_reducible refine gate_dst (N := 9) rfl ?_); refine box_event ?hg (N := 9) ?hd (cs := #[.bool false, .slice none 0 0]) (t := 39) ?hr ?_; (case hd => rfl); (case hg => rfl); (case hr => first | (go_simp; done) | (go_simp; rfl)); intro gb717 hg w12 hbox hb; have n0_ := Aside0.mk (blk_below (g := gb715) (o := .cells #[.bool ((rd_T39 l0 x17_1).f0), .slice A714_1 ((rd_T39 l0 x17_1).f1).length c714_1] 39 (0, 0)) (by (with_reducible repeat (first | refine blk_drewN ?_ _ | refine blk_drew ?_ | refine blk_alloc ?_ _)); refine blk_put (cs := #[.bool ((rd_T39 l0 x17_1).f0), .slice none 0 0]) ?_ 1 _ rfl; (with_reducible repeat (first | refine blk_drewN ?_ _ | refine blk_drew ?_ | refine blk_alloc ?_ _)); refine blk_put (cs := #[.bool false, .slice none 0 0]) ?_ 0 _ rfl; (with_reducible repeat (first | refine blk_drewN ?_ _ | refine blk_drew ?_ | refine blk_alloc ?_ _)); exact BK715.out) hb); have n1_ := Aside0.mk (below_step (by repeat (first | (with_reducible first | exact HB.out | apply below_alloc | apply pw_below_drewN | apply below_drew1 | refine below_set ?_ GE715.out) | exact HB.out)) hb); have n2_ := Aside0.mk (hbox); have n3_ := Aside0.mk ((by rw [hg]; exact (below_size (by repeat (first | (with_reducible first | exact HB.out | apply below_alloc | apply pw_below_drewN | apply below_drew1 | refine below_set ?_ GE715.out) | exact HB.out))) : w.heap.size ≤ gb717)); have n4_ := Aside0.mk ((by rw [hg]; exact (below_size (by repeat (first | (with_reducible first | exact HB.out | apply below_alloc | apply pw_below_drewN | apply below_drew1 | refine below_set ?_ GE715.out) | exact HB.out))) : w.heap.size ≤ gb717)); have n5_ := Aside0.mk ((by rw [hg]; exact Nat.ne_of_lt (blk_lt (g := gb715) (o := .cells #[.bool ((rd_T39 l0 x17_1).f0), .slice A714_1 ((rd_T39 l0 x17_1).f1).length c714_1] 39 (0, 0)) (by (with_reducible repeat (first | refine blk_drewN ?_ _ | refine blk_drew ?_ | refine blk_alloc ?_ _)); refine blk_put (cs := #[.bool ((rd_T39 l0 x17_1).f0), .slice none 0 0]) ?_ 1 _ rfl; (with_reducible repeat (first | refine blk_drewN ?_ _ | refine blk_drew ?_ | refine blk_alloc ?_ _)); refine blk_put (cs := #[.bool false, .slice none 0 0]) ?_ 0 _ rfl; (with_reducible repeat (first | refine blk_drewN ?_ _ | refine blk_drew ?_ | refine blk_alloc ?_ _)); exact BK715.out)) : gb715 ≠ gb717)); have n6_ := Aside0.mk ((by rw [hg]; exact Nat.ne_of_gt (blk_lt (g := gb715) (o := .cells #[.bool ((rd_T39 l0 x17_1).f0), .slice A714_1 ((rd_T39 l0 x17_1).f1).length c714_1] 39 (0, 0)) (by (with_reducible repeat (first | refine blk_drewN ?_ _ | refine blk_drew ?_ | refine blk_alloc ?_ _)); refine blk_put (cs := #[.bool ((rd_T39 l0 x17_1).f0), .slice none 0 0]) ?_ 1 _ rfl; (with_reducible repeat (first | refine blk_drewN ?_ _ | refine blk_drew ?_ | refine blk_alloc ?_ _)); refine blk_put (cs := #[.bool false, .slice none 0 0]) ?_ 0 _ rfl; (with_reducible repeat (first | refine blk_drewN ?_ _ | refine blk_drew ?_ | refine blk_alloc ?_ _)); exact BK715.out)) : gb717 ≠ gb715)); clear BK715; clear HB; have BK715 := n0_; have HB := n1_; have BK717 := n2_; have GW717 := n3_; have GE717 := n4_; have NB715_717 := n5_; have NB717_715 := n6_; clear n0_ n1_ n2_ n3_ n4_ n5_ n6_; clear hb hbox hg; have hnb13 := NB717_715.out; have hnc13 := NB715_717.out; have hcz14_0 : w12.cell? ⟨gb717, 0, none⟩ = some (.bool false) := (blk_cell BK717.out 0).trans rfl; have hcz14_1 : w12.cell? ⟨gb717, 1, none⟩ = some (.slice none 0 0) := (blk_cell BK717.out 1).trans rfl; have hfz14_0 := blk_frozen BK717.out 0; have hfz14_1 := blk_frozen BK717.out 1; have hcz15_0 : w12.cell? ⟨gb715, 0, none⟩ = some (.bool ((rd_T39 l0 x17_1).f0)) := (blk_cell BK715.out 0).trans rfl; have hcz15_1 : w12.cell? ⟨gb715, 1, none⟩ = some (.slice A714_1 ((rd_T39 l0 x17_1).f1).length c714_1) := (blk_cell BK715.out 1).trans rfl; have hfz15_0 := blk_frozen BK715.out 0; have hfz15_1 := blk_frozen BK715.out 1) | ((with_reducible refine gate_callee_v rfl ?_); refine goesL_v (some 29) rfl rfl Tryd.func44 (by kernel_rfl) rfl #[.agg #[.bool ((rd_T39 l0 x17_1).f0), .slice A714_1 ((rd_T39 l0 x17_1).f1).length c714_1], .agg #[.bool ((rd_T39 l1 x17_1).f0), .slice A716_1 ((rd_T39 l1 x17_1).f1).length c716_1]] rfl rfl (by (try simp only [List.map_toArray, List.map_cons, List.map_nil]); first | done | rfl | (simp only [List.length_drop, List.length_take]; rfl)) ?_; (with_reducible refine (swagelaw21_alike_1.calls k1 ((rd_T39 l0 x17_1).f0) _ _ ((rd_T39 l0 x17_1).f1) ((rd_T39 l1 x17_1).f0) _ _ ((rd_T39 l1 x17_1).f1) true _ ?side1 ?side2 ?side3 ?side4 A8.out).mono ?_); (case side1 => exact Kd.C_below HR714_1.out (by repeat (first | (with_reducible first | exact HB.out | apply below_alloc | apply pw_below_drewN | apply below_drew1 | refine below_set ?_ GE715.out | refine below_set ?_ GE717.out) | exact HB.out))); (case side2 => exact HC714_1.out); (case side3 => exact Kd.C_below HR716_1.out (by repeat (first | (with_reducible first | exact HB.out | apply below_alloc | apply pw_below_drewN | apply below_drew1 | refine below_set ?_ GE715.out | refine below_set ?_ GE717.out) | exact HB.out))); (case side4 => exact HC716_1.out); rintro e w16 ⟨rfl, hb⟩; refine ⟨_, rfl, ?_⟩; have n0_ := Aside0.mk (blk_below (g := gb715) (o := .cells #[.bool ((rd_T39 l0 x17_1).f0), .slice A714_1 ((rd_T39 l0 x17_1).f1).length c714_1] 39 (0, 0)) (by (with_reducible repeat (first | refine blk_drewN ?_ _ | refine blk_drew ?_ | refine blk_alloc ?_ _)); refine blk_far ?_ NB715_717.out _; (with_reducible repeat (first | refine blk_drewN ?_ _ | refine blk_drew ?_ | refine blk_alloc ?_ _)); refine blk_far ?_ NB715_717.out _; (with_reducible repeat (first | refine blk_drewN ?_ _ | refine blk_drew ?_ | refine blk_alloc ?_ _)); exact BK715.out) hb); have n1_ := Aside0.mk (blk_below (g := gb717) (o := .cells #[.bool ((rd_T39 l1 x17_1).f0), .slice A716_1 ((rd_T39 l1 x17_1).f1).length c716_1] 39 (0, 0)) (by (with_reducible repeat (first | refine blk_drewN ?_ _ | refine blk_drew ?_ | refine blk_alloc ?_ _)); refine blk_put (cs := #[.bool ((rd_T39 l1 x17_1).f0), .slice none 0 0]) ?_ 1 _ rfl; (with_reducible repeat (first | refine blk_drewN ?_ _ | refine blk_drew ?_ | refine blk_alloc ?_ _)); refine blk_put (cs := #[.bool false, .slice none 0 0]) ?_ 0 _ rfl; (with_reducible repeat (first | refine blk_drewN ?_ _ | refine blk_drew ?_ | refine blk_alloc ?_ _)); exact BK717.out) hb); have n2_ := Aside0.mk (below_step (by repeat (first | (with_reducible first | exact HB.out | apply below_alloc | apply pw_below_drewN | apply below_drew1 | refine below_set ?_ GE715.out | refine below_set ?_ GE717.out) | exact HB.out)) hb); clear BK715; clear BK717; clear HB; have BK715 := n0_; have BK717 := n1_; have HB := n2_; clear n0_ n1_ n2_; (try clear hb); (try clear hb2); (try clear hk); (try clear hi)))
         go_roundg k1
         case measure => have := HK1.out; omega
         case rel => exact ⟨(wrap64 (x17_1 + 1)), (by first | rfl | (simp; done) | (simp [*]; done)), H', ⟨by have := HK1.out; omega⟩, ⟨by repeat (first | (with_reducible first | exact HB.out | apply below_alloc | apply pw_below_drewN | apply below_drew1 | refine below_set ?_ GE715.out | refine below_set ?_ GE717.out) | exact HB.out)⟩⟩
        ·replace c9 := Bool.eq_false_iff.mpr c9
         subst c9
         have H1 : (some false) = some r := by rw [if_neg (show ¬ (false = true) by decide)] at H; exact H
         clear H
         have H := H1
         clear H1
         obtain rfl := Option.some.inj H
         have p714 : 0 ≤ (x17_1 : Int) := of_decide_eq_true (by first | (with_reducible assumption) | assumption)
         have q714 : x17_1 < (l0.length : Int) := of_decide_eq_true (by first | (with_reducible assumption) | assumption)
         obtain ⟨ad714, A714_1, c714_1, e714, hx714_0, hx714_1, hl714_1, hi714_1⟩ := at_T39 HR0.out x17_1 p714 q714
         cases e714
         replace hx714_0 := (HB.out.cell (World.block_lt_of_cell? w _ hx714_0)).trans hx714_0
         replace hx714_1 := (HB.out.cell (World.block_lt_of_cell? w _ hx714_1)).trans hx714_1
         have HR714_1 := Aside0.mk hi714_1
         have HC714_1 := Aside0.mk hl714_1
         clear hi714_1 hl714_1
         replace p714 := eq_true p714
         replace q714 := eq_true q714
         go_wp2_with (first | ((with_reducible refine gate_dst (N := 8) rfl ?_); refine box_event ?hg (N := 8) ?hd (cs := #[.bool false, .slice none 0 0]) (t := 39) ?hr ?_; (case hd => rfl); (case hg => rfl); (case hr => first | (go_simp; done) | (go_simp; rfl)); intro gb715 hg w17 hbox hb; have n0_ := Aside0.mk (below_step (lB HB) hb); have n1_ := Aside0.mk (hbox); have n2_ := Aside0.mk ((by rw [hg]; exact (below_size (lB HB)) : w.heap.size ≤ gb715)); have n3_ := Aside0.mk ((by rw [hg]; exact (below_size (lB HB)) : w.heap.size ≤ gb715)); clear HB; have HB := n0_; have BK715 := n1_; have GW715 := n2_; have GE715 := n3_; clear n0_ n1_ n2_ n3_; clear hb hbox hg; have hcz18_0 : w17.cell? ⟨gb715, 0, none⟩ = some (.bool false) := (blk_cell BK715.out 0).trans rfl; have hcz18_1 : w17.cell? ⟨gb715, 1, none⟩ = some (.slice none 0 0) := (blk_cell BK715.out 1).trans rfl; have hfz18_0 := blk_frozen BK715.out 0; have hfz18_1 := blk_frozen BK715.out 1; have p716 : 0 ≤ (x17_1 : Int) := of_decide_eq_true (by first | (with_reducible assumption) | assumption); have q716 : x17_1 < (l1.length : Int) := of_decide_eq_true (by first | (with_reducible assumption) | assumption); obtain ⟨ad716, A716_1, c716_1, e716, hx716_0, hx716_1, hl716_1, hi716_1⟩ := at_T39 HR1.out x17_1 p716 q716; cases e716; have hn716_0 : ad716.block ≠ gb715 := Nat.ne_of_lt (Nat.lt_of_lt_of_le (by have := World.block_lt_of_cell? _ _ hx716_0; first | rwa [add_block] at this | exact this) GW715.out); have hn716_1 : ad716.block ≠ gb715 := Nat.ne_of_lt (Nat.lt_of_lt_of_le (by have := World.block_lt_of_cell? _ _ hx716_0; first | rwa [add_block] at this | exact this) GW715.out); replace hx716_0 := (HB.out.cell (World.block_lt_of_cell? w _ hx716_0)).trans hx716_0; replace hx716_1 := (HB.out.cell (World.block_lt_of_cell? w _ hx716_1)).trans hx716_1; have HR716_1 := Aside0.mk hi716_1; have HC716_1 := Aside0.mk hl716_1; clear hi716_1 hl716_1; replace hx716_0 := (cell_far (p := ⟨gb715, 0, none⟩) (by first | (rw [add_block]; exact hn716_0) | (show (Addr.add _ _).block ≠ _; rw [add_block]; exact hn716_0) | exact hn716_0) (.bool ((rd_T39 l0 x17_1).f0))).trans hx716_0; replace hx716_1 := (cell_far (p := ⟨gb715, 0, none⟩) (by first | (rw [add_block]; exact hn716_0) | (show (Addr.add _ _).block ≠ _; rw [add_block]; exact hn716_0) | exact hn716_0) (.bool ((rd_T39 l0 x17_1).f0))).trans hx716_1; replace hx716_0 := (cell_far (p := ⟨gb715, 1, none⟩) (by first | (rw [add_block]; exact hn716_1) | (show (Addr.add _ _).block ≠ _; rw [add_block]; exact hn716_1) | exact hn716_1) (.slice A714_1 ((rd_T39 l0 x17_1).f1).length c714_1)).trans hx716_0; replace hx716_1 := (cell_far (p := ⟨gb715, 1, none⟩) (by first | (rw [add_block]; exact hn716_1) | (show (Addr.add _ _).block ≠ _; rw [add_block]; exact hn716_1) | exact hn716_1) (.slice A714_1 ((rd_T39 l0 x17_1).f1).length c714_1)).trans hx716_1; clear hn716_0; clear hn716_1; replace p716 := eq_true p716; replace q716 := eq_true q716) | ((with_reducible refine gate_dst (N := 9) rfl ?_); refine box_event ?hg (N := 9) ?hd (cs := #[.bool false, .slice none 0 0]) (t := 39) ?hr ?_; (case hd => rfl); (case hg => rfl); (case hr => first | (go_simp; done) | (go_simp; rfl)); intro gb717 hg w19 hbox hb; have n0_ := Aside0.mk (blk_below (g := gb715) (o := .cells #[.bool ((rd_T39 l0 x17_1).f0), .slice A714_1 ((rd_T39 l0 x17_1).f1).length c714_1] 39 (0, 0)) (by (with_reducible repeat (first | refine blk_drewN ?_ _ | refine blk_drew ?_ | refine blk_alloc ?_ _)); refine blk_put (cs := #[.bool ((rd_T39 l0 x17_1).f0), .slice none 0 0]) ?_ 1 _ rfl; (with_reducible repeat (first | refine blk_drewN ?_ _ | refine blk_drew ?_ | refine blk_alloc ?_ _)); refine blk_put (cs := #[.bool false, .slice none 0 0]) ?_ 0 _ rfl; (with_reducible repeat (first | refine blk_drewN ?_ _ | refine blk_drew ?_ | refine blk_alloc ?_ _)); exact BK715.out) hb); have n1_ := Aside0.mk (below_step (by repeat (first | (with_reducible first | exact HB.out | apply below_alloc | apply pw_below_drewN | apply below_drew1 | refine below_set ?_ GE715.out) | exact HB.out)) hb); have n2_ := Aside0.mk (hbox); have n3_ := Aside0.mk ((by rw [hg]; exact (below_size (by repeat (first | (with_reducible first | exact HB.out | apply below_alloc | apply pw_below_drewN | apply below_drew1 | refine below_set ?_ GE715.out) | exact HB.out))) : w.heap.size ≤ gb717)); have n4_ := Aside0.mk ((by rw [hg]; exact (below_size (by repeat (first | (with_reducible first | exact HB.out | apply below_alloc | apply pw_below_drewN | apply below_drew1 | refine below_set ?_ GE715.out) | exact HB.out))) : w.heap.size ≤ gb717)); have n5_ := Aside0.mk ((by rw [hg]; exact Nat.ne_of_lt (blk_lt (g := gb715) (o := .cells #[.bool ((rd_T39 l0 x17_1).f0), .slice A714_1 ((rd_T39 l0 x17_1).f1).length c714_1] 39 (0, 0)) (by (with_reducible repeat (first | refine blk_drewN ?_ _ | refine blk_drew ?_ | refine blk_alloc ?_ _)); refine blk_put (cs := #[.bool ((rd_T39 l0 x17_1).f0), .slice none 0 0]) ?_ 1 _ rfl; (with_reducible repeat (first | refine blk_drewN ?_ _ | refine blk_drew ?_ | refine blk_alloc ?_ _)); refine blk_put (cs := #[.bool false, .slice none 0 0]) ?_ 0 _ rfl; (with_reducible repeat (first | refine blk_drewN ?_ _ | refine blk_drew ?_ | refine blk_alloc ?_ _)); exact BK715.out)) : gb715 ≠ gb717)); have n6_ := Aside0.mk ((by rw [hg]; exact Nat.ne_of_gt (blk_lt (g := gb715) (o := .cells #[.bool ((rd_T39 l0 x17_1).f0), .slice A714_1 ((rd_T39 l0 x17_1).f1).length c714_1] 39 (0, 0)) (by (with_reducible repeat (first | refine blk_drewN ?_ _ | refine blk_drew ?_ | refine blk_alloc ?_ _)); refine blk_put (cs := #[.bool ((rd_T39 l0 x17_1).f0), .slice none 0 0]) ?_ 1 _ rfl; (with_reducible repeat (first | refine blk_drewN ?_ _ | refine blk_drew ?_ | refine blk_alloc ?_ _)); refine blk_put (cs := #[.bool false, .slice none 0 0]) ?_ 0 _ rfl; (with_reducible repeat (first | refine blk_drewN ?_ _ | refine blk_drew ?_ | refine blk_alloc ?_ _)); exact BK715.out)) : gb717 ≠ gb715)); clear BK715; clear HB; have BK715 := n0_; have HB := n1_; have BK717 := n2_; have GW717 := n3_; have GE717 := n4_; have NB715_717 := n5_; have NB717_715 := n6_; clear n0_ n1_ n2_ n3_ n4_ n5_ n6_; clear hb hbox hg; have hnb20 := NB717_715.out; have hnc20 := NB715_717.out; have hcz21_0 : w19.cell? ⟨gb717, 0, none⟩ = some (.bool false) := (blk_cell BK717.out 0).trans rfl; have hcz21_1 : w19.cell? ⟨gb717, 1, none⟩ = some (.slice none 0 0) := (blk_cell BK717.out 1).trans rfl; have hfz21_0 := blk_frozen BK717.out 0; have hfz21_1 := blk_frozen BK717.out 1; have hcz22_0 : w19.cell? ⟨gb715, 0, none⟩ = some (.bool ((rd_T39 l0 x17_1).f0)) := (blk_cell BK715.out 0).trans rfl; have hcz22_1 : w19.cell? ⟨gb715, 1, none⟩ = some (.slice A714_1 ((rd_T39 l0 x17_1).f1).length c714_1) := (blk_cell BK715.out 1).trans rfl; have hfz22_0 := blk_frozen BK715.out 0; have hfz22_1 := blk_frozen BK715.out 1) | ((with_reducible refine gate_callee_v rfl ?_); refine goesL_v (some 29) rfl rfl Tryd.func44 (by kernel_rfl) rfl #[.agg #[.bool ((rd_T39 l0 x17_1).f0), .slice A714_1 ((rd_T39 l0 x17_1).f1).length c714_1], .agg #[.bool ((rd_T39 l1 x17_1).f0), .slice A716_1 ((rd_T39 l1 x17_1).f1).length c716_1]] rfl rfl (by (try simp only [List.map_toArray, List.map_cons, List.map_nil]); first | done | rfl | (simp only [List.length_drop, List.length_take]; rfl)) ?_; (with_reducible refine (swagelaw21_alike_1.calls k1 ((rd_T39 l0 x17_1).f0) _ _ ((rd_T39 l0 x17_1).f1) ((rd_T39 l1 x17_1).f0) _ _ ((rd_T39 l1 x17_1).f1) false _ ?side1 ?side2 ?side3 ?side4 A8.out).mono ?_); (case side1 => exact Kd.C_below HR714_1.out (by repeat (first | (with_reducible first | exact HB.out | apply below_alloc | apply pw_below_drewN | apply below_drew1 | refine below_set ?_ GE715.out | refine below_set ?_ GE717.out) | exact HB.out))); (case side2 => exact HC714_1.out); (case side3 => exact Kd.C_below HR716_1.out (by repeat (first | (with_reducible first | exact HB.out | apply below_alloc | apply pw_below_drewN | apply below_drew1 | refine below_set ?_ GE715.out | refine below_set ?_ GE717.out) | exact HB.out))); (case side4 => exact HC716_1.out); rintro e w23 ⟨rfl, hb⟩; refine ⟨_, rfl, ?_⟩; have n0_ := Aside0.mk (blk_below (g := gb715) (o := .cells #[.bool ((rd_T39 l0 x17_1).f0), .slice A714_1 ((rd_T39 l0 x17_1).f1).length c714_1] 39 (0, 0)) (by (with_reducible repeat (first | refine blk_drewN ?_ _ | refine blk_drew ?_ | refine blk_alloc ?_ _)); refine blk_far ?_ NB715_717.out _; (with_reducible repeat (first | refine blk_drewN ?_ _ | refine blk_drew ?_ | refine blk_alloc ?_ _)); refine blk_far ?_ NB715_717.out _; (with_reducible repeat (first | refine blk_drewN ?_ _ | refine blk_drew ?_ | refine blk_alloc ?_ _)); exact BK715.out) hb); have n1_ := Aside0.mk (blk_below (g := gb717) (o := .cells #[.bool ((rd_T39 l1 x17_1).f0), .slice A716_1 ((rd_T39 l1 x17_1).f1).length c716_1] 39 (0, 0)) (by (with_reducible repeat (first | refine blk_drewN ?_ _ | refine blk_drew ?_ | refine blk_alloc ?_ _)); refine blk_put (cs := #[.bool ((rd_T39 l1 x17_1).f0), .slice none 0 0]) ?_ 1 _ rfl; (with_reducible repeat (first | refine blk_drewN ?_ _ | refine blk_drew ?_ | refine blk_alloc ?_ _)); refine blk_put (cs := #[.bool false, .slice none 0 0]) ?_ 0 _ rfl; (with_reducible repeat (first | refine blk_drewN ?_ _ | refine blk_drew ?_ | refine blk_alloc ?_ _)); exact BK717.out) hb); have n2_ := Aside0.mk (below_step (by repeat (first | (with_reducible first | exact HB.out | apply below_alloc | apply pw_below_drewN | apply below_drew1 | refine below_set ?_ GE715.out | refine below_set ?_ GE717.out) | exact HB.out)) hb); clear BK715; clear BK717; clear HB; have BK715 := n0_; have BK717 := n1_; have HB := n2_; clear n0_ n1_ n2_; (try clear hb); (try clear hb2); (try clear hk); (try clear hi)))
         go_ret
         exact ⟨by first | rfl | (simp [errW_none, errW_some] <;> rfl) | (simp [*, errW_none, errW_some] <;> rfl), by repeat (first | (with_reducible first | exact HB.out | apply below_alloc | apply pw_below_drewN | apply below_drew1 | refine below_set ?_ GE715.out | refine below_set ?_ GE717.out) | exact HB.out)⟩
       ·rw [if_neg c7] at H
        exact absurd H (by simp)
      ·rw [if_neg c6] at H
       exact absurd H (by simp)
     ·rw [if_neg c5] at H
      exact absurd H (by simp)
    ·rw [if_neg c4] at H
     have c4b0 : decide (x17_1 < (l0.length : Int)) = false := decide_eq_false c4
     clear c4
     obtain rfl := Option.some.inj H
     go_wp2
     go_ret
     exact ⟨by first | rfl | (simp [errW_none, errW_some] <;> rfl) | (simp [*, errW_none, errW_some] <;> rfl), by repeat (first | (with_reducible first | exact HB.out | apply below_alloc | apply pw_below_drewN | apply below_drew1) | exact HB.out)⟩
 ·rw [if_neg c3] at H
  have c3b0 : ((l0.length : Int) == (l1.length : Int)) = false := beq_eq_false_iff_ne.mpr c3
  have c3b1 : ((l0.length : Int) != (l1.length : Int)) = true := bne_iff_ne.mpr c3
  have c3b2 : (l0.length == l1.length) = false := by first | simpa using c3 | (simp at c3 ⊢; omega)
  obtain rfl := Option.some.inj H
  go_enter Tryd.func43, Tryd.ntmps43
  go_wp2
  go_ret
  exact ⟨by first | rfl | (simp [errW_none, errW_some] <;> rfl) | (simp [*, errW_none, errW_some] <;> rfl), by repeat (first | (with_reducible first | exact HB.out | apply below_alloc | apply pw_below_drewN | apply below_drew1) | exact HB.out)⟩

/-! ### swagelaw21_alike: function 27 -/
def swagelaw21_alike.f (k : Nat) (l0 : List (S39)) (l1 : List (S39)) : Option (Bool) := (integer_Int.f k l0 l1).bind fun t719 => (some t719)
set_option maxHeartbeats 8000000 in
set_option maxRecDepth 100000 in
theorem swagelaw21_alike.calls (k : Nat) (A0 : Option Addr) (c0 : Nat) (l0 : List (S39)) (A1 : Option Addr) (c1 : Nat) (l1 : List (S39)) (r : Bool) (w : World) (hr0 : Kd.C k39 w A0 l0.length l0) (hc0 : l0.length ≤ c0) (hr1 : Kd.C k39 w A1 l1.length l1) (hc1 : l1.length ≤ c1) (h : swagelaw21_alike.f k l0 l1 = some r) :
  Calls Tryd.prog 27 #[.slice A0 l0.length c0, .slice A1 l1.length c1] w fun e w' => e = .returned (.bool r) ∧ Below w.heap.size w w' := by
 have HR0 := Aside0.mk hr0
 have HC0 := Aside0.mk hc0
 clear hr0 hc0
 have HR1 := Aside0.mk hr1
 have HC1 := Aside0.mk hc1
 clear hr1 hc1
 have HB := Aside0.mk (Below.refl w.heap.size w)
 have H : ((integer_Int.f k l0 l1).bind fun t719 => (some t719)) = some r := h
 clear h
 replace H := Option.bind_eq_some_iff.mp H
 obtain ⟨t719, A30, H⟩ := H
 replace H : (some t719) = some r := H
 have A3 := Aside0.mk A30
 clear A30
 obtain rfl := Option.some.inj H
 go_enter Tryd.func27, Tryd.ntmps27
 go_wp2_with (first | ((with_reducible refine gate_callee (f := 43) rfl ?_); refine goesL_ (some 7) rfl rfl Tryd.func43 (by kernel_rfl) rfl #[.slice A0 l0.length c0, .slice A1 l1.length c1, .func (.func 44) #[] #[]] rfl (by (try simp only [List.map_toArray, List.map_cons, List.map_nil]); first | done | rfl | (simp only [List.length_drop, List.length_take]; rfl)) ?_; (with_reducible refine (integer_Int.calls k _ _ l0 _ _ l1 t719 _ ?side1 ?side2 ?side3 ?side4 A3.out).mono ?_); (case side1 => repeat (first | exact HR0.out | (with_reducible refine Kd.C_alloc ?_ _) | (with_reducible refine Kd.C_drewN ?_ _) | (with_reducible refine Kd.C_drew ?_))); (case side2 => exact HC0.out); (case side3 => repeat (first | exact HR1.out | (with_reducible refine Kd.C_alloc ?_ _) | (with_reducible refine Kd.C_drewN ?_ _) | (with_reducible refine Kd.C_drew ?_))); (case side4 => exact HC1.out); rintro e w4 ⟨rfl, hb⟩; refine ⟨_, rfl, ?_⟩; have n0_ := Aside0.mk (below_step (lB HB) hb); clear HB; have HB := n0_; clear n0_; (try clear hb); (try clear hb2); (try clear hk); (try clear hi)))
 go_ret
 exact ⟨by first | rfl | (simp [errW_none, errW_some] <;> rfl) | (simp [*, errW_none, errW_some] <;> rfl), by repeat (first | (with_reducible first | exact HB.out | apply below_alloc | apply pw_below_drewN | apply below_drew1) | exact HB.out)⟩

end Go.Proofs.YtakmkhokbcjapaaDoor.XA
end

section
namespace Go.Proofs.YtakmkhokbcjapaaDoor.XA
open Go.Proofs.YtakmkhokbcjapaaDoor.Lift Go.RowKit Go.Proofs.YtakmkhokbcjapaaDoorW.PrintWords Go.Proofs.YtakmkhokbcjapaaDoorW.PrintLast Go.Proofs.YtakmkhokbcjapaaDoorW.PrintMore
attribute [local go_sem] max2_int min2_int max_two min_two max_three min_three max_four min_four   -- for this text's walks alone
set_option linter.unusedVariables false
set_option linter.unusedSimpArgs false

/-! ### limb_Mul: function 60 -/
mutual
def limb_Mul.l0 : Nat → List Int → List Int → List Int → Int → Int → Option (List Int)
 | 0, _, _, _, _, _ => none
 | k + 1, x1, x5, x17, x18, x19 => if x19 < x18 then (if 0 ≤ x19 then (if x19 < (x17.length : Int) then (limb_Mul.l1 k x1 x5 x19 (rd x17 x19) 0 x17 x18 x19 x1 (x1.length : Int) 0) else (none)) else (none)) else ((limb_trim.f k x5).bind fun t723 => (some t723))
def limb_Mul.l1 : Nat → List Int → List Int → Int → Int → Int → List Int → Int → Int → List Int → Int → Int → Option (List Int)
 | 0, _, _, _, _, _, _, _, _, _, _, _ => none
 | k + 1, x1, x5, x6, x7, x8, x17, x18, x19, x24, x25, x26 => if x26 < x25 then (if 0 ≤ x26 then (if x26 < (x24.length : Int) then (if 0 ≤ (wrap64 (x6 + x26)) then (if (wrap64 (x6 + x26)) < (x5.length : Int) then (limb_Mul.l1 k x1 (x5.set ((wrap64 (x6 + x26)) : Int).toNat ((IntKind.u64.wrap (x8 + (IntKind.u64.wrap ((IntKind.u64.wrap ((IntKind.u64.wrap (x7)) * (IntKind.u64.wrap (rd x24 x26)))) + (IntKind.u64.wrap (rd x5 (wrap64 (x6 + x26)))))))) % 4294967296)) x6 x7 ((IntKind.u64.wrap (x8 + (IntKind.u64.wrap ((IntKind.u64.wrap ((IntKind.u64.wrap (x7)) * (IntKind.u64.wrap (rd x24 x26)))) + (IntKind.u64.wrap (rd x5 (wrap64 (x6 + x26)))))))) / 4294967296) x17 x18 x19 x24 x25 (wrap64 (x26 + 1))) else (none)) else (none)) else (none)) else (none)) else (if 0 ≤ (wrap64 (x6 + (x1.length : Int))) then (if (wrap64 (x6 + (x1.length : Int))) < (x5.length : Int) then (limb_Mul.l0 k x1 (x5.set ((wrap64 (x6 + (x1.length : Int))) : Int).toNat ((x8) % 4294967296)) x17 x18 (wrap64 (x19 + 1))) else (none)) else (none))
end
def limb_Mul.f (k : Nat) (l0 : List Int) (l1 : List Int) : Option (List Int) := if 0 ≤ (wrap64 ((l0.length : Int) + (l1.length : Int))) then (if (wrap64 ((l0.length : Int) + (l1.length : Int)) : Int).toNat ≤ 70368744177664 then (limb_Mul.l0 k l1 (List.replicate (wrap64 ((l0.length : Int) + (l1.length : Int)) : Int).toNat 0) l0 (l0.length : Int) 0) else (none)) else (none)
set_option maxHeartbeats 8000000 in
set_option maxRecDepth 100000 in
theorem limb_Mul.calls (k : Nat) (A0 : Option Addr) (c0 : Nat) (l0 : List Int) (A1 : Option Addr) (c1 : Nat) (l1 : List Int) (r : List Int) (w : World) (hr0 : Kd.C (Kd.int .u32) w A0 l0.length l0) (hc0 : l0.length ≤ c0) (hr1 : Kd.C (Kd.int .u32) w A1 l1.length l1) (hc1 : l1.length ≤ c1) (h : limb_Mul.f k l0 l1 = some r) :
  Calls Tryd.prog 60 #[.slice A0 l0.length c0, .slice A1 l1.length c1] w fun e w' => ∃ v0_ : Value, e = .returned (v0_) ∧ Kd.V (Kd.int .u32) 76 w' w.heap.size (fun k_ => (w.heap.size ≤ k_)) v0_ r ∧ Below w.heap.size w w' := by
 have HR0 := Aside0.mk hr0
 have HC0 := Aside0.mk hc0
 clear hr0 hc0
 have HR1 := Aside0.mk hr1
 have HC1 := Aside0.mk hc1
 clear hr1 hc1
 have HB := Aside0.mk (Below.refl w.heap.size w)
 have H : (if 0 ≤ (wrap64 ((l0.length : Int) + (l1.length : Int))) then (if (wrap64 ((l0.length : Int) + (l1.length : Int)) : Int).toNat ≤ 70368744177664 then (limb_Mul.l0 k l1 (List.replicate (wrap64 ((l0.length : Int) + (l1.length : Int)) : Int).toNat 0) l0 (l0.length : Int) 0) else (none)) else (none)) = some r := h
 clear h
 obtain ⟨ji3, hji3⟩ : ∃ j_ : Int, (wrap64 ((l0.length : Int) + (l1.length : Int))) = j_ := ⟨_, rfl⟩
 replace H : (if 0 ≤ (ji3) then (if (ji3 : Int).toNat ≤ 70368744177664 then (limb_Mul.l0 k l1 (List.replicate (ji3 : Int).toNat 0) l0 (l0.length : Int) 0) else (none)) else (none)) = some r := by first | (rw [hji3] at H; exact H) | (simp only [hji3] at H ⊢; exact H)
 have hji3w : (IntKind.i64.wrap ((l0.length : Int) + (l1.length : Int))) = ji3 := (i64_w _).trans hji3
 by_cases c4 : 0 ≤ (ji3)
 ·rw [if_pos c4] at H
  have c4b0 := eq_true c4
  have c4b1 : decide (0 ≤ (ji3)) = true := decide_eq_true c4
  clear c4
  by_cases c5 : (ji3 : Int).toNat ≤ 70368744177664
  ·rw [if_pos c5] at H
   have c5b0 := eq_true c5
   have c5b1 : decide ((ji3 : Int).toNat ≤ 70368744177664) = true := decide_eq_true c5
   clear c5
   obtain ⟨y720, hy720⟩ : ∃ y_ : List Int, y_ = (List.replicate (ji3 : Int).toNat 0) := ⟨_, rfl⟩
   replace H : (limb_Mul.l0 k l1 y720 l0 (l0.length : Int) 0) = some r := by first | (rw [hy720]; with_reducible exact H) | (have H2_ := (Option.bind_some _ _).symm.trans H; rw [hy720]; with_reducible exact H2_) | (have H2_ := (Option.bind_some _ _).symm.trans H; with_reducible exact H2_) | with_reducible exact H | (rw [hy720]; exact H) | exact H
   have Ny720 := Aside0.mk hy720
   clear hy720
   have H' := Aside0.mk H
   clear H
   go_enter Tryd.func60, Tryd.ntmps60
   go_wp2_with (first | ((with_reducible refine gate_dst (N := 16) rfl ?_); refine Kd.R_make (Kd.int .u32) _ 76 rfl (N := 16) rfl 37 _ _ rfl ji3 rfl rfl Tryd.underlying37 (.int .u32 0) 4 info76 rfl (by decide) (by omega) 0 (ok := fun _ => True) (okp := fun _ => True) rfl (fun _ hk => hk) trivial (of_decide_eq_true (by first | (with_reducible assumption) | assumption)) (Nat.le_trans (Nat.mul_le_mul_right _ (of_decide_eq_true (by first | (with_reducible assumption) | assumption) : ji3.toNat ≤ 70368744177664)) (by omega)) (Below.refl _ _) (Nat.le_refl _) ?_; intro v721 w6 ho7 hb hg_ hnew_; clear hg_ hnew_; (first | rw [← Ny720.out] at ho7 | (simp only [Int.reduceToNat] at ho7; rw [← Ny720.out] at ho7)); have n0_ := Aside0.mk (Kd.R_lower (Kd.R_newM (M := fun k_ => (w.heap.size ≤ k_)) ho7 (below_size (lB HB)) (fun k_ h_ => h_)) (below_size (lB HB))); have n1_ := Aside0.mk (below_step (lB HB) hb); clear HB; have HO722 := n0_; have HB := n1_; clear n0_ n1_; clear hb ho7))
   go_loopg [19] k (fun kq v19 w' => ∃ (x5_1 : List Int) (x19_1 : Int), v19 = .int .i64 x19_1 ∧ Aside0 (limb_Mul.l0 kq l1 x5_1 l0 (l0.length : Int) x19_1 = some r) ∧ Aside0 (kq ≤ k) ∧ Aside0 (Kd.R (Kd.int .u32) 76 w' w.heap.size (fun k_ => (w.heap.size ≤ k_)) v721 x5_1) ∧ Aside0 (Below w.heap.size w w'))
   case atStart => exact ⟨(y720), (0), (by first | rfl | (simp; done) | (simp [*]; done)), H', ⟨Nat.le_refl _⟩, ⟨by (with_reducible repeat (first | apply Kd.R_alloc | apply Kd.R_drewN | apply Kd.R_drew)); exact Kd.R_mono HO722.out (fun _ hk => hk.1)⟩, ⟨by repeat (first | (with_reducible first | exact HB.out | apply below_alloc | apply pw_below_drewN | apply below_drew1) | exact HB.out)⟩⟩
   case round =>
    clear H'
    try clear c1
    try clear c4
    try clear c5
    obtain ⟨x5_1, x19_1, rfl, HA, HK1, HO_5, HB⟩ := hrel
    cases gk with
    | zero => exact absurd HA.out (by simp [limb_Mul.l0])
    | succ k1 =>
     have H := HA.out
     clear HA
     simp only [limb_Mul.l0] at H
     by_cases c8 : x19_1 < (l0.length : Int)
     ·rw [if_pos c8] at H
      have c8b0 : decide (x19_1 < (l0.length : Int)) = true := decide_eq_true c8
      clear c8
      by_cases c9 : 0 ≤ x19_1
      ·rw [if_pos c9] at H
       have c9b0 : decide (0 ≤ x19_1) = true := decide_eq_true c9
       clear c9
       by_cases c10 : x19_1 < (l0.length : Int)
       ·rw [if_pos c10] at H
        have c10b0 : decide (x19_1 < (l0.length : Int)) = true := decide_eq_true c10
        clear c10
        have H' := Aside0.mk H
        clear H
        have p726 : 0 ≤ (x19_1 : Int) := of_decide_eq_true (by first | (with_reducible assumption) | assumption)
        have q726 : x19_1 < (l0.length : Int) := of_decide_eq_true (by first | (with_reducible assumption) | assumption)
        obtain ⟨ad726, e726, hx726_0⟩ := Kd.at_int HR0.out x19_1 p726 q726
        cases e726
        replace hx726_0 := (HB.out.cell (World.block_lt_of_cell? w _ hx726_0)).trans hx726_0
        replace p726 := eq_true p726
        replace q726 := eq_true q726
        go_wp2
        go_loopg [8, 26] k1 (fun kq v8 v26 w' => ∃ (x5_2 : List Int) (x8_2 : Int) (x26_2 : Int), v8 = .int .u64 x8_2 ∧ v26 = .int .i64 x26_2 ∧ Aside0 (limb_Mul.l1 kq l1 x5_2 x19_1 (rd l0 x19_1) x8_2 l0 (l0.length : Int) x19_1 l1 (l1.length : Int) x26_2 = some r) ∧ Aside0 (kq ≤ k1) ∧ Aside0 (Kd.R (Kd.int .u32) 76 w' w.heap.size (fun k_ => (w.heap.size ≤ k_)) v721 x5_2) ∧ Aside0 (Below w.heap.size w w'))
        case atStart => exact ⟨(x5_1), (0), (0), (by first | rfl | (simp; done) | (simp [*]; done)), (by first | rfl | (simp; done) | (simp [*]; done)), H', ⟨Nat.le_refl _⟩, ⟨by (with_reducible repeat (first | apply Kd.R_alloc | apply Kd.R_drewN | apply Kd.R_drew)); exact HO_5.out⟩, ⟨by repeat (first | (with_reducible first | exact HB.out | apply below_alloc | apply pw_below_drewN | apply below_drew1) | exact HB.out)⟩⟩
        case round =>
         clear H'
         try clear c1
         try clear c4
         try clear c5
         try clear c8
         try clear c9
         try clear c10
         obtain ⟨x5_2, x8_2, x26_2, rfl, rfl, HA, HK2, HO_5, HB⟩ := hrel
         cases gk with
         | zero => exact absurd HA.out (by simp [limb_Mul.l1])
         | succ k2 =>
          have H := HA.out
          clear HA
          simp only [limb_Mul.l1] at H
          by_cases c11 : x26_2 < (l1.length : Int)
          ·rw [if_pos c11] at H
           have c11b0 : decide (x26_2 < (l1.length : Int)) = true := decide_eq_true c11
           clear c11
           by_cases c12 : 0 ≤ x26_2
           ·rw [if_pos c12] at H
            have c12b0 : decide (0 ≤ x26_2) = true := decide_eq_true c12
            clear c12
            by_cases c13 : x26_2 < (l1.length : Int)
            ·rw [if_pos c13] at H
             have c13b0 : decide (x26_2 < (l1.length : Int)) = true := decide_eq_true c13
             clear c13
             obtain ⟨ji14, hji14⟩ : ∃ j_ : Int, (wrap64 (x19_1 + x26_2)) = j_ := ⟨_, rfl⟩
             replace H : (if 0 ≤ (ji14) then (if (ji14) < (x5_2.length : Int) then (limb_Mul.l1 k2 l1 (x5_2.set ((ji14) : Int).toNat ((IntKind.u64.wrap (x8_2 + (IntKind.u64.wrap ((IntKind.u64.wrap ((IntKind.u64.wrap ((rd l0 x19_1))) * (IntKind.u64.wrap (rd l1 x26_2)))) + (IntKind.u64.wrap (rd x5_2 (ji14))))))) % 4294967296)) x19_1 (rd l0 x19_1) ((IntKind.u64.wrap (x8_2 + (IntKind.u64.wrap ((IntKind.u64.wrap ((IntKind.u64.wrap ((rd l0 x19_1))) * (IntKind.u64.wrap (rd l1 x26_2)))) + (IntKind.u64.wrap (rd x5_2 (ji14))))))) / 4294967296) l0 (l0.length : Int) x19_1 l1 (l1.length : Int) (wrap64 (x26_2 + 1))) else (none)) else (none)) = some r := by first | (rw [hji14] at H; exact H) | (simp only [hji14] at H ⊢; exact H)
             have hji14w : (IntKind.i64.wrap (x19_1 + x26_2)) = ji14 := (i64_w _).trans hji14
             by_cases c15 : 0 ≤ (ji14)
             ·rw [if_pos c15] at H
              have c15b0 : decide (0 ≤ (ji14)) = true := decide_eq_true c15
              clear c15
              by_cases c16 : (ji14) < (x5_2.length : Int)
              ·rw [if_pos c16] at H
               have c16b0 : decide ((ji14) < (x5_2.length : Int)) = true := decide_eq_true c16
               clear c16
               obtain ⟨y729, hy729⟩ : ∃ y_ : List Int, y_ = (x5_2.set ((ji14) : Int).toNat ((IntKind.u64.wrap (x8_2 + (IntKind.u64.wrap ((IntKind.u64.wrap ((IntKind.u64.wrap ((rd l0 x19_1))) * (IntKind.u64.wrap (rd l1 x26_2)))) + (IntKind.u64.wrap (rd x5_2 (ji14))))))) % 4294967296)) := ⟨_, rfl⟩
               replace H : (limb_Mul.l1 k2 l1 y729 x19_1 (rd l0 x19_1) ((IntKind.u64.wrap (x8_2 + (IntKind.u64.wrap ((IntKind.u64.wrap ((IntKind.u64.wrap ((rd l0 x19_1))) * (IntKind.u64.wrap (rd l1 x26_2)))) + (IntKind.u64.wrap (rd x5_2 (ji14))))))) / 4294967296) l0 (l0.length : Int) x19_1 l1 (l1.length : Int) (wrap64 (x26_2 + 1))) = some r := by first | (rw [hy729]; with_reducible exact H) | (have H2_ := (Option.bind_some _ _).symm.trans H; rw [hy729]; with_reducible exact H2_) | (have H2_ := (Option.bind_some _ _).symm.trans H; with_reducible exact H2_) | with_reducible exact H | (rw [hy729]; exact H) | exact H
               have Ny729 := Aside0.mk hy729
               clear hy729
               have H' := Aside0.mk H
               clear H
               have p727 : 0 ≤ (x26_2 : Int) := of_decide_eq_true (by first | (with_reducible assumption) | assumption)
               have q727 : x26_2 < (l1.length : Int) := of_decide_eq_true (by first | (with_reducible assumption) | assumption)
               obtain ⟨ad727, e727, hx727_0⟩ := Kd.at_int HR1.out x26_2 p727 q727
               cases e727
               replace hx727_0 := (HB.out.cell (World.block_lt_of_cell? w _ hx727_0)).trans hx727_0
               replace p727 := eq_true p727
               replace q727 := eq_true q727
               obtain ⟨Ao18, co18, eo18⟩ := Kd.R_slice HO_5.out
               subst eo18
               have p728 : 0 ≤ ((ji14) : Int) := of_decide_eq_true (by first | (with_reducible assumption) | assumption)
               have q728 : (ji14) < (x5_2.length : Int) := of_decide_eq_true (by first | (with_reducible assumption) | assumption)
               obtain ⟨ad728, e728, hx728_0⟩ := Kd.at_int (Kd.R_reads' HO_5.out).2.2 (ji14) p728 q728
               cases e728
               replace p728 := eq_true p728
               replace q728 := eq_true q728
               have p17 : 0 ≤ ((ji14) : Int) := of_decide_eq_true (by first | (with_reducible assumption) | assumption)
               have q17 : ((ji14) : Int) < ((x5_2.length : Int) : Int) := of_decide_eq_true (by first | (with_reducible assumption) | assumption)
               obtain ⟨go17, co17, eo17, gb17, gl17, cl17, HG17⟩ := Kd.R_form HO_5.out (by omega)
               (first | cases eo17 | (injection eo17 with ea_ en_ ec_; (first | subst ea_ | (injection ea_ with ea_; subst ea_)); subst ec_; clear en_))
               have GB17 := Aside0.mk gb17
               have GG17 := Aside0.mk HG17
               clear gb17 gl17 HG17
               (first | simp only [add_plain] at hx728_0 | skip)
               obtain ⟨hx17_0, hf17_0⟩ := Kd.R_celln 0 HO_5.out ((ji14) : Int) p17 q17
               replace p17 := eq_true p17
               replace q17 := eq_true q17
               have HP19 := Kd.R_putg HO_5.out ((ji14) : Int) ((IntKind.u64.wrap (x8_2 + (IntKind.u64.wrap ((IntKind.u64.wrap ((IntKind.u64.wrap ((rd l0 x19_1))) * (IntKind.u64.wrap (rd l1 x26_2)))) + (IntKind.u64.wrap (rd x5_2 (ji14))))))) % 4294967296)
               go_wp2_with (first | ((with_reducible refine gate_store (t := 76) (p := 52) rfl ?_); refine store_event (t := 76) (p := 52) (v := ?vo_w20) (w1 := (wr.setCell ⟨go17, ((ji14) : Int).toNat, none⟩ (.int .u32 ((IntKind.u64.wrap (x8_2 + (IntKind.u64.wrap ((IntKind.u64.wrap ((IntKind.u64.wrap ((rd l0 x19_1))) * (IntKind.u64.wrap (rd l1 x26_2)))) + (IntKind.u64.wrap (rd x5_2 (ji14))))))) % 4294967296)))) ?hg ?ho ?hn ?hr ?_; (case ho => rfl); (case hg => rfl); (case hn => rfl); (case hr => first | (go_simp; done) | (go_simp; rfl)); intro w20 hw; have hg : wr.grownBy w20 (some go17) := (by rw [hw]; exact HP19.2); have hp_ : Kd.R (Kd.int .u32) 76 w20 w.heap.size (fun k_ => (w.heap.size ≤ k_)) (.slice (some ⟨go17, 0, none⟩) x5_2.length co18) y729 := (by rw [hw, Ny729.out]; exact HP19.1); clear HP19; have n0_ := Aside0.mk (hp_); have n1_ := Aside0.mk ((by rw [hw]; exact below_set (HB.out) GB17.out : Below w.heap.size w w20)); clear HO_5 HB; have HO_5 := n0_; have HB := n1_; clear n0_ n1_; clear hg hw hp_))
               go_roundg k2
               case measure => have := HK1.out; have := HK2.out; omega
               case rel => exact ⟨(y729), ((IntKind.u64.wrap (x8_2 + (IntKind.u64.wrap ((IntKind.u64.wrap ((IntKind.u64.wrap ((rd l0 x19_1))) * (IntKind.u64.wrap (rd l1 x26_2)))) + (IntKind.u64.wrap (rd x5_2 (ji14))))))) / 4294967296), (wrap64 (x26_2 + 1)), (by first | rfl | (simp; done) | (simp only [← hji14] <;> (first | rfl | simp)) | (simp [*]; done)), (by first | rfl | (simp; done) | (simp [*]; done)), H', ⟨by have := HK1.out; have := HK2.out; omega⟩, ⟨by (with_reducible repeat (first | apply Kd.R_alloc | apply Kd.R_drewN | apply Kd.R_drew)); exact HO_5.out⟩, ⟨by repeat (first | (with_reducible first | exact HB.out | apply below_alloc | apply pw_below_drewN | apply below_drew1) | exact HB.out)⟩⟩
              ·rw [if_neg c16] at H
               exact absurd H (by simp)
             ·rw [if_neg c15] at H
              exact absurd H (by simp)
            ·rw [if_neg c13] at H
             exact absurd H (by simp)
           ·rw [if_neg c12] at H
            exact absurd H (by simp)
          ·rw [if_neg c11] at H
           have c11b0 : decide (x26_2 < (l1.length : Int)) = false := decide_eq_false c11
           clear c11
           obtain ⟨ji21, hji21⟩ : ∃ j_ : Int, (wrap64 (x19_1 + (l1.length : Int))) = j_ := ⟨_, rfl⟩
           replace H : (if 0 ≤ (ji21) then (if (ji21) < (x5_2.length : Int) then (limb_Mul.l0 k2 l1 (x5_2.set ((ji21) : Int).toNat ((x8_2) % 4294967296)) l0 (l0.length : Int) (wrap64 (x19_1 + 1))) else (none)) else (none)) = some r := by first | (rw [hji21] at H; exact H) | (simp only [hji21] at H ⊢; exact H)
           have hji21w : (IntKind.i64.wrap (x19_1 + (l1.length : Int))) = ji21 := (i64_w _).trans hji21
           by_cases c22 : 0 ≤ (ji21)
           ·rw [if_pos c22] at H
            have c22b0 : decide (0 ≤ (ji21)) = true := decide_eq_true c22
            clear c22
            by_cases c23 : (ji21) < (x5_2.length : Int)
            ·rw [if_pos c23] at H
             have c23b0 : decide ((ji21) < (x5_2.length : Int)) = true := decide_eq_true c23
             clear c23
             obtain ⟨y730, hy730⟩ : ∃ y_ : List Int, y_ = (x5_2.set ((ji21) : Int).toNat ((x8_2) % 4294967296)) := ⟨_, rfl⟩
             replace H : (limb_Mul.l0 k2 l1 y730 l0 (l0.length : Int) (wrap64 (x19_1 + 1))) = some r := by first | (rw [hy730]; with_reducible exact H) | (have H2_ := (Option.bind_some _ _).symm.trans H; rw [hy730]; with_reducible exact H2_) | (have H2_ := (Option.bind_some _ _).symm.trans H; with_reducible exact H2_) | with_reducible exact H | (rw [hy730]; exact H) | exact H
             have Ny730 := Aside0.mk hy730
             clear hy730
             have H' := Aside0.mk H
             clear H
             have p24 : 0 ≤ ((ji21) : Int) := of_decide_eq_true (by first | (with_reducible assumption) | assumption)
             have q24 : ((ji21) : Int) < ((x5_2.length : Int) : Int) := of_decide_eq_true (by first | (with_reducible assumption) | assumption)
             obtain ⟨go24, co24, eo24, gb24, gl24, cl24, HG24⟩ := Kd.R_form HO_5.out (by omega)
             (first | cases eo24 | (injection eo24 with ea_ en_ ec_; (first | subst ea_ | (injection ea_ with ea_; subst ea_)); subst ec_; clear en_))
             have GB24 := Aside0.mk gb24
             have GG24 := Aside0.mk HG24
             clear gb24 gl24 HG24
             obtain ⟨hx24_0, hf24_0⟩ := Kd.R_celln 0 HO_5.out ((ji21) : Int) p24 q24
             replace p24 := eq_true p24
             replace q24 := eq_true q24
             have HP25 := Kd.R_putg HO_5.out ((ji21) : Int) ((x8_2) % 4294967296)
             go_wp2_with (first | ((with_reducible refine gate_store (t := 76) (p := 63) rfl ?_); refine store_event (t := 76) (p := 63) (v := ?vo_w26) (w1 := (wr.setCell ⟨go24, ((ji21) : Int).toNat, none⟩ (.int .u32 ((x8_2) % 4294967296)))) ?hg ?ho ?hn ?hr ?_; (case ho => rfl); (case hg => rfl); (case hn => rfl); (case hr => first | (go_simp; done) | (go_simp; rfl)); intro w26 hw; have hg : wr.grownBy w26 (some go24) := (by rw [hw]; exact HP25.2); have hp_ : Kd.R (Kd.int .u32) 76 w26 w.heap.size (fun k_ => (w.heap.size ≤ k_)) (.slice (some ⟨go24, 0, none⟩) x5_2.length co24) y730 := (by rw [hw, Ny730.out]; exact HP25.1); clear HP25; have n0_ := Aside0.mk (hp_); have n1_ := Aside0.mk ((by rw [hw]; exact below_set (HB.out) GB24.out : Below w.heap.size w w26)); clear HO_5 HB; have HO_5 := n0_; have HB := n1_; clear n0_ n1_; clear hg hw hp_))
             go_roundg k2
             case measure => have := HK1.out; have := HK2.out; omega
             case rel => exact ⟨(y730), (wrap64 (x19_1 + 1)), (by first | rfl | (simp; done) | (simp [*]; done)), H', ⟨by have := HK1.out; have := HK2.out; omega⟩, ⟨by (with_reducible repeat (first | apply Kd.R_alloc | apply Kd.R_drewN | apply Kd.R_drew)); exact HO_5.out⟩, ⟨by repeat (first | (with_reducible first | exact HB.out | apply below_alloc | apply pw_below_drewN | apply below_drew1) | exact HB.out)⟩⟩
            ·rw [if_neg c23] at H
             exact absurd H (by simp)
           ·rw [if_neg c22] at H
            exact absurd H (by simp)
       ·rw [if_neg c10] at H
        exact absurd H (by simp)
      ·rw [if_neg c9] at H
       exact absurd H (by simp)
     ·rw [if_neg c8] at H
      have c8b0 : decide (x19_1 < (l0.length : Int)) = false := decide_eq_false c8
      clear c8
      replace H := Option.bind_eq_some_iff.mp H
      obtain ⟨t723, A270, H⟩ := H
      replace H : (some t723) = some r := H
      have A27 := Aside0.mk A270
      clear A270
      obtain rfl := Option.some.inj H
      obtain ⟨Ao28, co28, eo28⟩ := Kd.R_slice HO_5.out
      subst eo28
      go_wp2_with (first | ((with_reducible refine gate_callee (f := 65) rfl ?_); refine goesL_ (some 66) rfl rfl Tryd.func65 (by kernel_rfl) rfl #[.slice Ao28 x5_1.length co28] rfl (by (try simp only [List.map_toArray, List.map_cons, List.map_nil]); first | done | rfl | (simp only [List.length_drop, List.length_take]; rfl)) ?_; (with_reducible refine (limb_trim.calls k1 (fun k_ => some k_ = (.slice Ao28 x5_1.length co28 : Value).ownBlock) _ _ x5_1 t723 _ ?side1 A27.out).mono ?_); (case side1 => exact Kd.R_V (Kd.R_tight rfl (HO_5.out))); rintro e w29 ⟨v724, rfl, ho0, hb⟩; refine ⟨_, rfl, ?_⟩; have n0_ := Aside0.mk (Kd.R_below (lR HO_5) hb); have n1_ := Aside0.mk (Kd.V_lower (Kd.V_mono (ok' := fun k_ => (w.heap.size ≤ k_)) ho0 (fun k_ hk_ => Or.elim hk_ (fun hs_ => ((HO_5.out).1 k_ hs_.symm)) (fun hn_ => (Nat.le_trans (below_size (lB HB)) hn_)))) (below_size (lB HB))); have n2_ := Aside0.mk (below_step (lB HB) hb); clear HO_5 HB; have HO_5 := n0_; have HO725 := n1_; have HB := n2_; clear n0_ n1_ n2_; (try clear hb); (try clear hb2); (try clear hk); (try clear hi); (try clear ho0)))
      go_ret
      exact ⟨_, by first | rfl | (simp [errW_none, errW_some] <;> rfl) | (simp only [← hji3]; first | rfl | (simp [errW_none, errW_some] <;> rfl)) | (simp [*, errW_none, errW_some] <;> rfl), by (with_reducible repeat (first | apply Kd.V_alloc | apply Kd.V_drewN | apply Kd.V_drew)); exact HO725.out, by repeat (first | (with_reducible first | exact HB.out | apply below_alloc | apply pw_below_drewN | apply below_drew1) | exact HB.out)⟩
  ·rw [if_neg c5] at H
   exact absurd H (by simp)
 ·rw [if_neg c4] at H
  exact absurd H (by simp)

end Go.Proofs.YtakmkhokbcjapaaDoor.XA
end

section
namespace Go.Proofs.YtakmkhokbcjapaaDoor.XA
open Go.Proofs.YtakmkhokbcjapaaDoor.Lift Go.RowKit Go.Proofs.YtakmkhokbcjapaaDoorW.PrintWords Go.Proofs.YtakmkhokbcjapaaDoorW.PrintLast Go.Proofs.YtakmkhokbcjapaaDoorW.PrintMore
attribute [local go_sem] max2_int min2_int max_two min_two max_three min_three max_four min_four   -- for this text's walks alone
set_option linter.unusedVariables false
set_option linter.unusedSimpArgs false

/-! ### integer_Int_Mul: function 46 -/
def integer_Int_Mul.f (k : Nat) (a0_0 : Bool) (l0_1 : List Int) (a1_0 : Bool) (l1_1 : List Int) : Option (Bool × List Int) := (limb_Mul.f k l0_1 l1_1).bind fun t734 => ((integer_made.f (a0_0 != a1_0) t734).bind fun bt737 => (some (bt737.1, bt737.2)))
def integer_Int_Mul.T1 : Bool × List (List Nat × List Nat) := (true, [([], []), ([0], [0]), ([], []), ([2], [2]), ([1, 3], [1, 3]), ([], []), ([5], [5]), ([], []), ([7], [7]), ([6, 8], [6, 8]), ([4, 9, 9], [4, 9]), ([10, 10, 0, 1, 2, 3, 4, 5, 6, 7, 8, 9, 10], [10])])
def integer_Int_Mul.B1 : List Nat := [0, 1, 0, 4, 15, 0, 32, 0, 128, 480, 1023, 2047]
theorem integer_Int_Mul.tab1 : rtab .any (opsOf Tryd.f46 1) = integer_Int_Mul.T1 := by kernel_rfl
theorem integer_Int_Mul.bits1 : waitsOk integer_Int_Mul.T1.2 integer_Int_Mul.B1 = true := by kernel_rfl
set_option maxHeartbeats 8000000 in
set_option maxRecDepth 100000 in
theorem integer_Int_Mul.calls (k : Nat) (a0_0 : Bool) (A0_1 : Option Addr) (c0_1 : Nat) (l0_1 : List Int) (a1_0 : Bool) (A1_1 : Option Addr) (c1_1 : Nat) (l1_1 : List Int) (r1 : Bool) (r2 : List Int) (w : World) (hr0_1 : Kd.C (Kd.int .u32) w A0_1 l0_1.length l0_1) (hc0_1 : l0_1.length ≤ c0_1) (hr1_1 : Kd.C (Kd.int .u32) w A1_1 l1_1.length l1_1) (hc1_1 : l1_1.length ≤ c1_1) (h : integer_Int_Mul.f k a0_0 l0_1 a1_0 l1_1 = some (r1, r2)) :
  Calls Tryd.prog 46 #[.agg #[.bool a0_0, .slice A0_1 l0_1.length c0_1], .agg #[.bool a1_0, .slice A1_1 l1_1.length c1_1]] w fun e w' => ∃ v1_ : Value, e = .returned (.agg #[.bool r1, v1_]) ∧ Kd.V (Kd.int .u32) 76 w' w.heap.size (fun k_ => (w.heap.size ≤ k_)) v1_ r2 ∧ Below w.heap.size w w' := by
 have hu39 := Tryd.underlying39
 have HR0_1 := Aside0.mk hr0_1
 have HC0_1 := Aside0.mk hc0_1
 clear hr0_1 hc0_1
 have HR1_1 := Aside0.mk hr1_1
 have HC1_1 := Aside0.mk hc1_1
 clear hr1_1 hc1_1
 have HB := Aside0.mk (Below.refl w.heap.size w)
 have H : ((limb_Mul.f k l0_1 l1_1).bind fun t734 => ((integer_made.f (a0_0 != a1_0) t734).bind fun bt737 => (some (bt737.1, bt737.2)))) = some (r1, r2) := h
 clear h
 replace H := Option.bind_eq_some_iff.mp H
 obtain ⟨t734, A30, H⟩ := H
 replace H : ((integer_made.f (a0_0 != a1_0) t734).bind fun bt737 => (some (bt737.1, bt737.2))) = some (r1, r2) := H
 have A3 := Aside0.mk A30
 clear A30
 replace H := Option.bind_eq_some_iff.mp H
 obtain ⟨⟨t737, t738⟩, A40, H⟩ := H
 replace H : (some (t737, t738)) = some (r1, r2) := H
 have A4 := Aside0.mk A40
 clear A40
 simp only [Option.some.injEq, Prod.mk.injEq] at H
 obtain ⟨rfl, rfl⟩ := H
 go_enter Tryd.func46, Tryd.ntmps46
 try go_wp2_with (first | ((with_reducible refine gate_dst (N := 2) rfl ?_); refine box_event ?hg (N := 2) ?hd (cs := #[.bool a0_0, .slice A0_1 l0_1.length c0_1]) (t := 39) ?hr ?_; (case hd => rfl); (case hg => rfl); (case hr => first | (go_simp; done) | (go_simp; rfl)); intro gb731 hg w5 hbox hb; have n0_ := Aside0.mk (below_step (lB HB) hb); have n1_ := Aside0.mk (hbox); have n2_ := Aside0.mk ((by rw [hg]; exact (below_size (lB HB)) : w.heap.size ≤ gb731)); have n3_ := Aside0.mk ((by rw [hg]; exact (below_size (lB HB)) : w.heap.size ≤ gb731)); clear HB; have HB := n0_; have BK731 := n1_; have GW731 := n2_; have GE731 := n3_; clear n0_ n1_ n2_ n3_; clear hb hbox hg) | ((with_reducible refine gate_dst (N := 3) rfl ?_); refine box_event ?hg (N := 3) ?hd (cs := #[.bool a1_0, .slice A1_1 l1_1.length c1_1]) (t := 39) ?hr ?_; (case hd => rfl); (case hg => rfl); (case hr => first | (go_simp; done) | (go_simp; rfl)); intro gb732 hg w6 hbox hb; have n0_ := Aside0.mk (blk_below (g := gb731) (o := .cells #[.bool a0_0, .slice A0_1 l0_1.length c0_1] 39 (0, 0)) (lK BK731) hb); have n1_ := Aside0.mk (below_step (by repeat (first | (with_reducible first | exact HB.out | apply below_alloc | apply pw_below_drewN | apply below_drew1 | refine below_set ?_ GE731.out) | exact HB.out)) hb); have n2_ := Aside0.mk (hbox); have n3_ := Aside0.mk ((by rw [hg]; exact (below_size (by repeat (first | (with_reducible first | exact HB.out | apply below_alloc | apply pw_below_drewN | apply below_drew1 | refine below_set ?_ GE731.out) | exact HB.out))) : w.heap.size ≤ gb732)); have n4_ := Aside0.mk ((by rw [hg]; exact (below_size (by repeat (first | (with_reducible first | exact HB.out | apply below_alloc | apply pw_below_drewN | apply below_drew1 | refine below_set ?_ GE731.out) | exact HB.out))) : w.heap.size ≤ gb732)); have n5_ := Aside0.mk ((by rw [hg]; exact Nat.ne_of_lt (blk_lt (g := gb731) (o := .cells #[.bool a0_0, .slice A0_1 l0_1.length c0_1] 39 (0, 0)) (lK BK731)) : gb731 ≠ gb732)); have n6_ := Aside0.mk ((by rw [hg]; exact Nat.ne_of_gt (blk_lt (g := gb731) (o := .cells #[.bool a0_0, .slice A0_1 l0_1.length c0_1] 39 (0, 0)) (lK BK731)) : gb732 ≠ gb731)); clear BK731; clear HB; have BK731 := n0_; have HB := n1_; have BK732 := n2_; have GW732 := n3_; have GE732 := n4_; have NB731_732 := n5_; have NB732_731 := n6_; clear n0_ n1_ n2_ n3_ n4_ n5_ n6_; clear hb hbox hg) | ((with_reducible refine gate_dst (N := 4) rfl ?_); refine box_event ?hg (N := 4) ?hd (cs := #[.bool false, .slice none 0 0]) (t := 39) ?hr ?_; (case hd => rfl); (case hg => rfl); (case hr => first | (go_simp; done) | (go_simp; rfl)); intro gb733 hg w7 hbox hb; have n0_ := Aside0.mk (blk_below (g := gb731) (o := .cells #[.bool a0_0, .slice A0_1 l0_1.length c0_1] 39 (0, 0)) (lK BK731) hb); have n1_ := Aside0.mk (blk_below (g := gb732) (o := .cells #[.bool a1_0, .slice A1_1 l1_1.length c1_1] 39 (0, 0)) (lK BK732) hb); have n2_ := Aside0.mk (below_step (by repeat (first | (with_reducible first | exact HB.out | apply below_alloc | apply pw_below_drewN | apply below_drew1 | refine below_set ?_ GE731.out | refine below_set ?_ GE732.out) | exact HB.out)) hb); have n3_ := Aside0.mk (hbox); have n4_ := Aside0.mk ((by rw [hg]; exact (below_size (by repeat (first | (with_reducible first | exact HB.out | apply below_alloc | apply pw_below_drewN | apply below_drew1 | refine below_set ?_ GE731.out | refine below_set ?_ GE732.out) | exact HB.out))) : w.heap.size ≤ gb733)); have n5_ := Aside0.mk ((by rw [hg]; exact (below_size (by repeat (first | (with_reducible first | exact HB.out | apply below_alloc | apply pw_below_drewN | apply below_drew1 | refine below_set ?_ GE731.out | refine below_set ?_ GE732.out) | exact HB.out))) : w.heap.size ≤ gb733)); have n6_ := Aside0.mk ((by rw [hg]; exact Nat.ne_of_lt (blk_lt (g := gb731) (o := .cells #[.bool a0_0, .slice A0_1 l0_1.length c0_1] 39 (0, 0)) (lK BK731)) : gb731 ≠ gb733)); have n7_ := Aside0.mk ((by rw [hg]; exact Nat.ne_of_gt (blk_lt (g := gb731) (o := .cells #[.bool a0_0, .slice A0_1 l0_1.length c0_1] 39 (0, 0)) (lK BK731)) : gb733 ≠ gb731)); have n8_ := Aside0.mk ((by rw [hg]; exact Nat.ne_of_lt (blk_lt (g := gb732) (o := .cells #[.bool a1_0, .slice A1_1 l1_1.length c1_1] 39 (0, 0)) (lK BK732)) : gb732 ≠ gb733)); have n9_ := Aside0.mk ((by rw [hg]; exact Nat.ne_of_gt (blk_lt (g := gb732) (o := .cells #[.bool a1_0, .slice A1_1 l1_1.length c1_1] 39 (0, 0)) (lK BK732)) : gb733 ≠ gb732)); clear BK731; clear BK732; clear HB; have BK731 := n0_; have BK732 := n1_; have HB := n2_; have BK733 := n3_; have GW733 := n4_; have GE733 := n5_; have NB731_733 := n6_; have NB733_731 := n7_; have NB732_733 := n8_; have NB733_732 := n9_; clear n0_ n1_ n2_ n3_ n4_ n5_ n6_ n7_ n8_ n9_; clear hb hbox hg))
 have n0_ := Aside0.mk (blk_drew BK731.out)
 have n1_ := Aside0.mk (blk_drew BK732.out)
 have n2_ := Aside0.mk (blk_drew BK733.out)
 have n3_ := Aside0.mk (below_drew1 HB.out)
 clear BK731
 clear BK732
 clear BK733
 clear HB
 have BK731 := n0_
 have BK732 := n1_
 have BK733 := n2_
 have HB := n3_
 clear n0_ n1_ n2_ n3_
 refine start_ (n := 12) (S := fun w' => w'.cell? ⟨gb731, 0, none⟩ = some (.bool a0_0) ∧ w'.cell? ⟨gb731, 1, none⟩ = some (.slice A0_1 l0_1.length c0_1) ∧ w'.cell? ⟨gb732, 0, none⟩ = some (.bool a1_0) ∧ w'.cell? ⟨gb732, 1, none⟩ = some (.slice A1_1 l1_1.length c1_1)) (ds := []) #[false, false, false, false, false, false, false, false, false, false, false, false] (by kernel_rfl) rfl rfl ⟨(blk_cell BK731.out 0).trans rfl, (blk_cell BK731.out 1).trans rfl, (blk_cell BK732.out 0).trans rfl, (blk_cell BK732.out 1).trans rfl⟩ (fun hHeld => ?_); refine with_tabW integer_Int_Mul.tab1 integer_Int_Mul.bits1 (fun HT_ HW_ => ?_)
 generalize w7.drew = w8 at BK731 BK732 BK733 HB hHeld ⊢
 refine pure_ (i := 0) (N := some 5) (v := ?_) (a' := ?_) #[true, false, false, false, false, false, false, false, false, false, false, false] rfl rfl (any_of HT_.out (by kernel_rfl)) (fun _ _ _ h => h) (Or.inl ⟨by rfl, ?_⟩) ?_ ?_
 rotate_left
 ·intro w'
  go_simp
  with_reducible rfl
 rotate_left
 ·simp only [Act.put, List.setIfInBounds_toArray, List.set_cons_zero, List.set_cons_succ, i64_w, i32_w]
  rfl
 refine pure_ (i := 2) (N := some 7) (v := ?_) (a' := ?_) #[true, false, true, false, false, false, false, false, false, false, false, false] rfl rfl (any_of HT_.out (by kernel_rfl)) (fun _ _ _ h => h) (Or.inl ⟨by rfl, ?_⟩) ?_ ?_
 rotate_left
 ·intro w'
  go_simp
  with_reducible rfl
 rotate_left
 ·simp only [Act.put, List.setIfInBounds_toArray, List.set_cons_zero, List.set_cons_succ, i64_w, i32_w]
  rfl
 refine pure_ (i := 5) (N := some 10) (v := ?_) (a' := ?_) #[true, false, true, false, false, true, false, false, false, false, false, false] rfl rfl (any_of HT_.out (by kernel_rfl)) (fun _ _ _ h => h) (Or.inl ⟨by rfl, ?_⟩) ?_ ?_
 rotate_left
 ·intro w'
  go_simp
  with_reducible rfl
 rotate_left
 ·simp only [Act.put, List.setIfInBounds_toArray, List.set_cons_zero, List.set_cons_succ, i64_w, i32_w]
  rfl
 refine pure_ (i := 7) (N := some 12) (v := ?_) (a' := ?_) #[true, false, true, false, false, true, false, true, false, false, false, false] rfl rfl (any_of HT_.out (by kernel_rfl)) (fun _ _ _ h => h) (Or.inl ⟨by rfl, ?_⟩) ?_ ?_
 rotate_left
 ·intro w'
  go_simp
  with_reducible rfl
 rotate_left
 ·simp only [Act.put, List.setIfInBounds_toArray, List.set_cons_zero, List.set_cons_succ, i64_w, i32_w]
  rfl
 refine take_ (i := 1) (N := some 6) (v := ?_) (a' := ?_) #[true, true, true, false, false, true, false, true, false, false, false, false] rfl rfl (take_ofW HT_.out HW_.out (by kernel_rfl)) (fun _ _ _ h => h) (Or.inl ⟨by rfl, ?_⟩) hHeld ?_ ?_
 rotate_left
 ·rintro w' ⟨s0, s1, s2, s3⟩
  go_simp
  with_reducible rfl
 rotate_left
 ·simp only [Act.put, List.setIfInBounds_toArray, List.set_cons_zero, List.set_cons_succ, i64_w, i32_w]
  rfl
 refine take_ (i := 3) (N := some 8) (v := ?_) (a' := ?_) #[true, true, true, true, false, true, false, true, false, false, false, false] rfl rfl (take_ofW HT_.out HW_.out (by kernel_rfl)) (fun _ _ _ h => h) (Or.inl ⟨by rfl, ?_⟩) hHeld ?_ ?_
 rotate_left
 ·rintro w' ⟨s0, s1, s2, s3⟩
  go_simp
  with_reducible rfl
 rotate_left
 ·simp only [Act.put, List.setIfInBounds_toArray, List.set_cons_zero, List.set_cons_succ, i64_w, i32_w]
  rfl
 refine pure_ (i := 4) (N := some 9) (v := ?_) (a' := ?_) #[true, true, true, true, true, true, false, true, false, false, false, false] rfl rfl (any_of HT_.out (by kernel_rfl)) (fun _ _ _ h => h) (Or.inl ⟨by rfl, ?_⟩) ?_ ?_
 rotate_left
 ·intro w'
  go_simp
  with_reducible rfl
 rotate_left
 ·simp only [Act.put, List.setIfInBounds_toArray, List.set_cons_zero, List.set_cons_succ, i64_w, i32_w]
  rfl
 refine take_ (i := 6) (N := some 11) (v := ?_) (a' := ?_) #[true, true, true, true, true, true, true, true, false, false, false, false] rfl rfl (take_ofW HT_.out HW_.out (by kernel_rfl)) (fun _ _ _ h => h) (Or.inl ⟨by rfl, ?_⟩) hHeld ?_ ?_
 rotate_left
 ·rintro w' ⟨s0, s1, s2, s3⟩
  go_simp
  with_reducible rfl
 rotate_left
 ·simp only [Act.put, List.setIfInBounds_toArray, List.set_cons_zero, List.set_cons_succ, i64_w, i32_w]
  rfl
 refine take_ (i := 8) (N := some 13) (v := ?_) (a' := ?_) #[true, true, true, true, true, true, true, true, true, false, false, false] rfl rfl (take_ofW HT_.out HW_.out (by kernel_rfl)) (fun _ _ _ h => h) (Or.inl ⟨by rfl, ?_⟩) hHeld ?_ ?_
 rotate_left
 ·rintro w' ⟨s0, s1, s2, s3⟩
  go_simp
  with_reducible rfl
 rotate_left
 ·simp only [Act.put, List.setIfInBounds_toArray, List.set_cons_zero, List.set_cons_succ, i64_w, i32_w]
  rfl
 refine one_ (i := 9) (N := some 14) #[true, true, true, true, true, true, true, true, true, true, false, false] rfl rfl (one_of HT_.out (by kernel_rfl)) (by decide) (fun K hK => ?_)
 refine goes_ Tryd.func60 (by kernel_rfl) rfl #[.slice A0_1 l0_1.length c0_1, .slice A1_1 l1_1.length c1_1] (by rfl) rfl rfl (by (try simp only [List.map_toArray, List.map_cons, List.map_nil]); first | done | rfl | (simp only [List.length_drop, List.length_take]; rfl)) ?_
 with_reducible refine (limb_Mul.calls k _ _ l0_1 _ _ l1_1 t734 _ ?side1 ?side2 ?side3 ?side4 A3.out).mono ?_
 (case side1 => repeat (first | exact (Kd.C_below HR0_1.out HB.out) | (with_reducible refine Kd.C_alloc ?_ _) | (with_reducible refine Kd.C_drewN ?_ _) | (with_reducible refine Kd.C_drew ?_)))
 (case side2 => exact HC0_1.out)
 (case side3 => repeat (first | exact (Kd.C_below HR1_1.out HB.out) | (with_reducible refine Kd.C_alloc ?_ _) | (with_reducible refine Kd.C_drewN ?_ _) | (with_reducible refine Kd.C_drew ?_)))
 (case side4 => exact HC1_1.out)
 rintro e w9 ⟨v735, rfl, ho0, hb⟩
 refine ⟨_, rfl, ?_⟩
 have n0_ := Aside0.mk (Kd.V_lower (Kd.V_mono (ok' := fun k_ => (w.heap.size ≤ k_) ∧ k_ ≠ gb731 ∧ k_ ≠ gb732 ∧ k_ ≠ gb733) ho0 (fun k_ hk_ => ⟨(Nat.le_trans (below_size (by repeat (first | (with_reducible first | exact HB.out | apply below_alloc | apply pw_below_drewN | apply below_drew1 | refine below_set ?_ GE731.out | refine below_set ?_ GE732.out | refine below_set ?_ GE733.out) | exact HB.out))) hk_), (Kd.freshB (g := gb731) (o := .cells #[.bool a0_0, .slice A0_1 l0_1.length c0_1] 39 (0, 0)) (lK BK731) k_ hk_), (Kd.freshB (g := gb732) (o := .cells #[.bool a1_0, .slice A1_1 l1_1.length c1_1] 39 (0, 0)) (lK BK732) k_ hk_), (Kd.freshB (g := gb733) (o := .cells #[.bool false, .slice none 0 0] 39 (0, 0)) (lK BK733) k_ hk_)⟩)) (below_size (by repeat (first | (with_reducible first | exact HB.out | apply below_alloc | apply pw_below_drewN | apply below_drew1 | refine below_set ?_ GE731.out | refine below_set ?_ GE732.out | refine below_set ?_ GE733.out) | exact HB.out))))
 have n1_ := Aside0.mk (blk_below (g := gb731) (o := .cells #[.bool a0_0, .slice A0_1 l0_1.length c0_1] 39 (0, 0)) (lK BK731) hb)
 have n2_ := Aside0.mk (blk_below (g := gb732) (o := .cells #[.bool a1_0, .slice A1_1 l1_1.length c1_1] 39 (0, 0)) (lK BK732) hb)
 have n3_ := Aside0.mk (blk_below (g := gb733) (o := .cells #[.bool false, .slice none 0 0] 39 (0, 0)) (lK BK733) hb)
 have n4_ := Aside0.mk (below_step (by repeat (first | (with_reducible first | exact HB.out | apply below_alloc | apply pw_below_drewN | apply below_drew1 | refine below_set ?_ GE731.out | refine below_set ?_ GE732.out | refine below_set ?_ GE733.out) | exact HB.out)) hb)
 clear BK731
 clear BK732
 clear BK733
 clear HB
 have HO736 := n0_
 have BK731 := n1_
 have BK732 := n2_
 have BK733 := n3_
 have HB := n4_
 clear n0_ n1_ n2_ n3_ n4_
 (try clear hb)
 (try clear hb2)
 (try clear hk)
 (try clear hi)
 (try clear ho0)
 obtain ⟨Ao10, co10, eo10⟩ := Kd.V_slice HO736.out
 (first | subst eo10 | (injection eo10 with f1_ f2_ f3_; have f4_ := f1_.symm; have f5_ := f3_.symm; clear f1_ f2_ f3_; subst f4_; subst f5_))
 refine hK.out _ _ ⟨(blk_cell BK731.out 0).trans rfl, (blk_cell BK731.out 1).trans rfl, (blk_cell BK732.out 0).trans rfl, (blk_cell BK732.out 1).trans rfl⟩ (fun hHeld => ?_)
 clear hK K
 refine norm_ (a' := ?_) ?_ ?_
 rotate_left
 ·show Act.put _ (some 14) _ = _
  simp only [Act.put, List.setIfInBounds_toArray, List.set_cons_zero, List.set_cons_succ, i64_w, i32_w]
  rfl
 refine one_ (i := 10) (N := some 15) #[true, true, true, true, true, true, true, true, true, true, true, false] rfl rfl (one_of HT_.out (by kernel_rfl)) (by decide) (fun K hK => ?_)
 refine goes_ Tryd.func51 (by kernel_rfl) rfl #[.bool (a0_0 != a1_0), .slice Ao10 t734.length co10] (by rfl) rfl rfl (by (try simp only [List.map_toArray, List.map_cons, List.map_nil]); first | done | rfl | (simp only [List.length_drop, List.length_take]; rfl)) ?_
 with_reducible refine (integer_made.calls (a0_0 != a1_0) (fun k_ => ((w.heap.size ≤ k_) ∧ (k_ ≠ gb731 ∧ (k_ ≠ gb732 ∧ k_ ≠ gb733)))) _ _ t734 t737 t738 _ ?side1 A4.out).mono ?_
 (case side1 => exact HO736.out)
 rintro e w11 ⟨v739, rfl, ho0, hb⟩
 refine ⟨_, rfl, ?_⟩
 have n0_ := Aside0.mk (Kd.V_below (lV HO736) hb)
 have n1_ := Aside0.mk (Kd.V_lower (Kd.V_mono (ok' := fun k_ => (w.heap.size ≤ k_) ∧ k_ ≠ gb731 ∧ k_ ≠ gb732 ∧ k_ ≠ gb733) ho0 (fun k_ hk_ => ⟨Or.elim hk_ (fun hs_ => hs_.1) (fun hn_ => (Nat.le_trans (below_size (by repeat (first | (with_reducible first | exact HB.out | apply below_alloc | apply pw_below_drewN | apply below_drew1 | refine below_set ?_ GE731.out | refine below_set ?_ GE732.out | refine below_set ?_ GE733.out) | exact HB.out))) hn_)), Or.elim hk_ (fun hs_ => hs_.2.1) (fun hn_ => (Kd.freshB (g := gb731) (o := .cells #[.bool a0_0, .slice A0_1 l0_1.length c0_1] 39 (0, 0)) (lK BK731) k_ hn_)), Or.elim hk_ (fun hs_ => hs_.2.2.1) (fun hn_ => (Kd.freshB (g := gb732) (o := .cells #[.bool a1_0, .slice A1_1 l1_1.length c1_1] 39 (0, 0)) (lK BK732) k_ hn_)), Or.elim hk_ (fun hs_ => hs_.2.2.2) (fun hn_ => (Kd.freshB (g := gb733) (o := .cells #[.bool false, .slice none 0 0] 39 (0, 0)) (lK BK733) k_ hn_))⟩)) (below_size (by repeat (first | (with_reducible first | exact HB.out | apply below_alloc | apply pw_below_drewN | apply below_drew1 | refine below_set ?_ GE731.out | refine below_set ?_ GE732.out | refine below_set ?_ GE733.out) | exact HB.out))))
 have n2_ := Aside0.mk (blk_below (g := gb731) (o := .cells #[.bool a0_0, .slice A0_1 l0_1.length c0_1] 39 (0, 0)) (lK BK731) hb)
 have n3_ := Aside0.mk (blk_below (g := gb732) (o := .cells #[.bool a1_0, .slice A1_1 l1_1.length c1_1] 39 (0, 0)) (lK BK732) hb)
 have n4_ := Aside0.mk (blk_below (g := gb733) (o := .cells #[.bool false, .slice none 0 0] 39 (0, 0)) (lK BK733) hb)
 have n5_ := Aside0.mk (below_step (by repeat (first | (with_reducible first | exact HB.out | apply below_alloc | apply pw_below_drewN | apply below_drew1 | refine below_set ?_ GE731.out | refine below_set ?_ GE732.out | refine below_set ?_ GE733.out) | exact HB.out)) hb)
 clear HO736
 clear BK731
 clear BK732
 clear BK733
 clear HB
 have HO736 := n0_
 have HO740 := n1_
 have BK731 := n2_
 have BK732 := n3_
 have BK733 := n4_
 have HB := n5_
 clear n0_ n1_ n2_ n3_ n4_ n5_
 (try clear hb)
 (try clear hb2)
 (try clear hk)
 (try clear hi)
 (try clear ho0)
 obtain ⟨Ao13, co13, eo13⟩ := Kd.V_slice HO740.out
 (first | subst eo13 | (injection eo13 with f1_ f2_ f3_; have f4_ := f1_.symm; have f5_ := f3_.symm; clear f1_ f2_ f3_; subst f4_; subst f5_))
 refine hK.out _ _ ⟨(blk_cell BK731.out 0).trans rfl, (blk_cell BK731.out 1).trans rfl, (blk_cell BK732.out 0).trans rfl, (blk_cell BK732.out 1).trans rfl⟩ (fun hHeld => ?_)
 clear hK K
 refine norm_ (a' := ?_) ?_ ?_
 rotate_left
 ·show Act.put _ (some 15) _ = _
  simp only [Act.put, List.setIfInBounds_toArray, List.set_cons_zero, List.set_cons_succ, i64_w, i32_w]
  rfl
 refine one_ (i := 11) (N := none) #[true, true, true, true, true, true, true, true, true, true, true, true] rfl rfl (one_of HT_.out (by kernel_rfl)) (by decide) (fun K hK => ?_)
 have hs12 : w11.cell? ⟨gb733, 0, none⟩ = some (.bool false) := (blk_cell BK733.out 0).trans rfl
 have hfs12 := blk_frozen BK733.out 0
 have hns12_0 := NB731_733.out
 have hns12_1 := NB732_733.out
 have hms12_0 := NB733_731.out
 have hms12_1 := NB733_732.out
 have hs14 : w11.cell? ⟨gb733, 1, none⟩ = some (.slice none 0 0) := (blk_cell BK733.out 1).trans rfl
 have hfs14 := blk_frozen BK733.out 1
 have hns14_0 := NB731_733.out
 have hns14_1 := NB732_733.out
 have hms14_0 := NB733_731.out
 have hms14_1 := NB733_732.out
 refine skip_ (w1 := ?_) (by rfl) rfl ?_ ?_
 rotate_left
 ·go_simp
  rfl
 refine hK.out _ _ ⟨((cell_far (p := ⟨gb733, _, none⟩) NB731_733.out _).trans (((cell_far (p := ⟨gb733, _, none⟩) NB731_733.out _).trans (hHeld.1)))), ((cell_far (p := ⟨gb733, _, none⟩) NB731_733.out _).trans (((cell_far (p := ⟨gb733, _, none⟩) NB731_733.out _).trans (hHeld.2.1)))), ((cell_far (p := ⟨gb733, _, none⟩) NB732_733.out _).trans (((cell_far (p := ⟨gb733, _, none⟩) NB732_733.out _).trans (hHeld.2.2.1)))), ((cell_far (p := ⟨gb733, _, none⟩) NB732_733.out _).trans (((cell_far (p := ⟨gb733, _, none⟩) NB732_733.out _).trans (hHeld.2.2.2))))⟩ (fun hHeld => ?_)
 clear hK K
 refine done_ (done_of HT_.out (by kernel_rfl)) ?_
 try go_wp2
 refine bodyPost_ret (results_cell_row rfl _ _ gb733 39 #[.bool t737, .slice Ao13 t738.length co13] (0, 0) _ rfl (by (with_reducible repeat (first | refine blk_drewN ?_ _ | refine blk_drew ?_ | refine blk_alloc ?_ _)); refine blk_put (cs := #[.bool t737, .slice none 0 0]) ?_ 1 _ rfl; (with_reducible repeat (first | refine blk_drewN ?_ _ | refine blk_drew ?_ | refine blk_alloc ?_ _)); refine blk_put (cs := #[.bool false, .slice none 0 0]) ?_ 0 _ rfl; (with_reducible repeat (first | refine blk_drewN ?_ _ | refine blk_drew ?_ | refine blk_alloc ?_ _)); exact BK733.out) Tryd.underlying39 rfl (by kernel_rfl)) rfl ?_
 exact ⟨_, by first | rfl | (simp [errW_none, errW_some] <;> rfl) | (simp [*, errW_none, errW_some] <;> rfl), by (with_reducible repeat (first | apply Kd.V_alloc | apply Kd.V_drewN | apply Kd.V_drew)); exact Kd.V_mono (Kd.V_far (p := ⟨gb733, 1, none⟩) (Kd.V_far (p := ⟨gb733, 0, none⟩) (Kd.V_mono HO740.out (fun k_ hk => (⟨hk, hk.2.2.2⟩ : _ ∧ k_ ≠ gb733))) (fun _ hk => hk.2) (.bool t737)) (fun _ hk => hk.2) (.slice Ao13 t738.length co13)) (fun _ hk => hk.1.1), by repeat (first | (with_reducible first | exact HB.out | apply below_alloc | apply pw_below_drewN | apply below_drew1 | refine below_set ?_ GE731.out | refine below_set ?_ GE732.out | refine below_set ?_ GE733.out) | exact HB.out)⟩

end Go.Proofs.YtakmkhokbcjapaaDoor.XA
end

section
namespace Go.Proofs.YtakmkhokbcjapaaDoor.XA
open Go.Proofs.YtakmkhokbcjapaaDoor.Lift Go.RowKit Go.Proofs.YtakmkhokbcjapaaDoorW.PrintWords Go.Proofs.YtakmkhokbcjapaaDoorW.PrintLast Go.Proofs.YtakmkhokbcjapaaDoorW.PrintMore
attribute [local go_sem] max2_int min2_int max_two min_two max_three min_three max_four min_four   -- for this text's walks alone
set_option linter.unusedVariables false
set_option linter.unusedSimpArgs false

/-! ### poly_Mul: function 28 -/
mutual
def poly_Mul.j0 : Nat → List (S39) → List (S39) → Bool → Option ((List (S39)) × Int)
 | 0, _, _, _ => none
 | k + 1, x0, x1, x19 => if x19 = true then (some (([] : List (S39)), 0)) else (if 0 ≤ (wrap64 ((wrap64 ((x0.length : Int) + (x1.length : Int))) - 1)) then (if (wrap64 ((wrap64 ((x0.length : Int) + (x1.length : Int))) - 1) : Int).toNat ≤ 8796093022208 then (poly_Mul.l0 k x1 (List.replicate (wrap64 ((wrap64 ((x0.length : Int) + (x1.length : Int))) - 1) : Int).toNat z39) 0 x0 (x0.length : Int) 0) else (none)) else (none))
def poly_Mul.l0 : Nat → List (S39) → List (S39) → Int → List (S39) → Int → Int → Option ((List (S39)) × Int)
 | 0, _, _, _, _, _, _ => none
 | k + 1, x1, x6, x7, x27, x28, x29 => if x29 < x28 then (if 0 ≤ x29 then (if x29 < (x27.length : Int) then (poly_Mul.l1 k x1 x6 x7 x29 x27 x28 x29 x1 (x1.length : Int) 0 ((rd_T39 x27 x29).f0) ((rd_T39 x27 x29).f1)) else (none)) else (none)) else (some (x6, x7))
def poly_Mul.l1 : Nat → List (S39) → List (S39) → Int → Int → List (S39) → Int → Int → List (S39) → Int → Int → Bool → List Int → Option ((List (S39)) × Int)
 | 0, _, _, _, _, _, _, _, _, _, _, _, _ => none
 | k + 1, x1, x6, x7, x8, x27, x28, x29, x34, x35, x36, x746000, x746001 => if x36 < x35 then (if 0 ≤ x36 then (if x36 < (x34.length : Int) then (if 0 ≤ (wrap64 (x8 + x36)) then (if (wrap64 (x8 + x36)) < (x6.length : Int) then ((integer_Int_Mul.f k x746000 x746001 ((rd_T39 x34 x36).f0) ((rd_T39 x34 x36).f1)).bind fun bt749 => ((integer_Int_Add.f k ((rd_T39 x6 (wrap64 (x8 + x36))).f0) ((rd_T39 x6 (wrap64 (x8 + x36))).f1) bt749.1 bt749.2).bind fun bt753 => (poly_Mul.l1 k x1 (x6.set ((wrap64 (x8 + x36)) : Int).toNat (⟨bt753.1, bt753.2⟩ : S39)) (wrap64 (x7 + 1)) x8 x27 x28 x29 x34 x35 (wrap64 (x36 + 1)) x746000 x746001))) else (none)) else (none)) else (none)) else (none)) else (poly_Mul.l0 k x1 x6 x7 x27 x28 (wrap64 (x29 + 1)))
end
def poly_Mul.f (k : Nat) (l0 : List (S39)) (l1 : List (S39)) : Option ((List (S39)) × Int) := if (l0.length : Int) = 0 then (poly_Mul.j0 k l0 l1 true) else (poly_Mul.j0 k l0 l1 ((l1.length : Int) == 0))
def poly_Mul.T11 : Bool × List (List Nat × List Nat) := (true, [([], []), ([], []), ([], []), ([1, 2], [1, 2]), ([], []), ([], []), ([], []), ([5, 6], [5, 6]), ([4, 7], [4, 7]), ([8], [8]), ([], []), ([], []), ([10, 11], [10, 11]), ([9, 12, 12], [9, 12]), ([0, 3, 0, 1, 2, 3, 4, 5, 6, 7, 8, 9, 10, 11, 12, 13], [0, 3]), ([14, 13, 13, 0, 1, 2, 3, 4, 5, 6, 7, 8, 9, 10, 11, 12, 13], [13, 14])])
def poly_Mul.B11 : List Nat := [0, 0, 0, 6, 0, 0, 0, 96, 240, 496, 0, 0, 3072, 8176, 16383, 32767]
theorem poly_Mul.tab11 : rtab .any (opsOf Tryd.f28 11) = poly_Mul.T11 := by kernel_rfl
theorem poly_Mul.bits11 : waitsOk poly_Mul.T11.2 poly_Mul.B11 = true := by kernel_rfl
set_option maxHeartbeats 8000000 in
set_option maxRecDepth 100000 in
theorem poly_Mul.calls (k : Nat) (P0_ : Nat → Prop) (A0 : Option Addr) (c0 : Nat) (l0 : List (S39)) (A1 : Option Addr) (c1 : Nat) (l1 : List (S39)) (r1 : List (S39)) (r2 : Int) (w : World) (hs0 : Kd.V k39 39 w w.heap.size (fun k_ => P0_ k_) (.slice A0 l0.length c0) l0) (hr1 : Kd.C k39 w A1 l1.length l1) (hc1 : l1.length ≤ c1) (h : poly_Mul.f k l0 l1 = some (r1, r2)) :
  Calls Tryd.prog 28 #[.slice A0 l0.length c0, .slice A1 l1.length c1] w fun e w' => ∃ v0_ : Value, e = .returned (.tuple #[v0_, .int .i64 r2]) ∧ Kd.N k39 39 w' w.heap.size (fun k_ => (P0_ k_ ∨ w.heap.size ≤ k_)) v0_ r1 ∧ Below w.heap.size w w' := by
 have hu39 := Tryd.underlying39
 have HO0 := Aside0.mk (show Kd.V k39 39 w w.heap.size (fun k_ => (P0_ k_ ∨ w.heap.size ≤ k_)) (.slice A0 l0.length c0) l0 from Kd.V_mono hs0 (fun k_ hk => .inl hk))
 have HR1 := Aside0.mk hr1
 have HC1 := Aside0.mk hc1
 clear hr1 hc1
 have HB := Aside0.mk (Below.refl w.heap.size w)
 have H : (if (l0.length : Int) = 0 then (poly_Mul.j0 k l0 l1 true) else (poly_Mul.j0 k l0 l1 ((l1.length : Int) == 0))) = some (r1, r2) := h
 clear h
 have HC3 := Aside0.mk H
 clear H
 go_enter Tryd.func28, Tryd.ntmps28
 go_upto_region 1 with (fail)
 go_cut [19] (fun v19 wc => ∃ (kq : Nat) (x19_2 : Bool), v19 = .bool x19_2 ∧ Aside0 (poly_Mul.j0 kq l0 l1 x19_2 = some (r1, r2)) ∧ Aside0 (kq ≤ k) ∧ Aside0 (Kd.V k39 39 wc w.heap.size (fun k_ => (P0_ k_ ∨ w.heap.size ≤ k_)) (.slice A0 l0.length c0) l0) ∧ Aside0 (Below w.heap.size w wc))
 case first =>
  have H := HC3.out
  clear HC3
  by_cases c4 : (l0.length : Int) = 0
  ·rw [if_pos c4] at H
   have c4b0 : ((l0.length : Int) == 0) = true := beq_iff_eq.mpr c4
   have c4b1 : ((l0.length : Int) != 0) = false := bne_eq_false_iff_eq.mpr c4
   clear c4
   (first | rw [c4b0] | (simp only [i64_w, i32_w]; rw [c4b0]) | skip)
   have H' := Aside0.mk H
   clear H
   go_wp2
   go_meet
   case rel => exact ⟨_, (true), (by first | rfl | (simp; done) | (simp [*]; done)), H', ⟨by first | omega | exact Nat.le_refl _⟩, ⟨by (with_reducible repeat (first | apply Kd.V_alloc | apply Kd.V_drewN | apply Kd.V_drew)); exact HO0.out⟩, ⟨by repeat (first | (with_reducible first | exact HB.out | apply below_alloc | apply pw_below_drewN | apply below_drew1) | exact HB.out)⟩⟩
  ·rw [if_neg c4] at H
   have c4b0 : ((l0.length : Int) == 0) = false := beq_eq_false_iff_ne.mpr c4
   have c4b1 : ((l0.length : Int) != 0) = true := bne_iff_ne.mpr c4
   have c4b2 : ¬ (l0 = []) := fun h_ => c4 (by rw [h_]; rfl)
   (first | rw [c4b0] | (simp only [i64_w, i32_w]; rw [c4b0]) | skip)
   have H' := Aside0.mk H
   clear H
   go_wp2
   go_meet
   case rel => exact ⟨_, (((l1.length : Int) == 0)), (by first | rfl | (simp; done) | (simp [*]; done)), H', ⟨by first | omega | exact Nat.le_refl _⟩, ⟨by (with_reducible repeat (first | apply Kd.V_alloc | apply Kd.V_drewN | apply Kd.V_drew)); exact HO0.out⟩, ⟨by repeat (first | (with_reducible first | exact HB.out | apply below_alloc | apply pw_below_drewN | apply below_drew1) | exact HB.out)⟩⟩
 case rest =>
  clear HC3
  try clear c1
  obtain ⟨kq, x19_2, rfl, HA, HJ2, HO_0, HB⟩ := hcut
  cases kq with
  | zero => exact absurd HA.out (by simp [poly_Mul.j0])
  | succ kj2 =>
   have H := HA.out
   clear HA
   simp only [poly_Mul.j0] at H
   by_cases c5 : x19_2 = true
   ·subst c5
    have H1 : (some (([] : List (S39)), 0)) = some (r1, r2) := by rw [if_pos rfl] at H; exact H
    clear H
    have H := H1
    clear H1
    simp only [Option.some.injEq, Prod.mk.injEq] at H
    obtain ⟨rfl, rfl⟩ := H
    go_wp2
    go_ret2
    exact ⟨_, by first | rfl | (simp [errW_none, errW_some] <;> rfl) | (simp [*, errW_none, errW_some] <;> rfl), by first | exact Kd.S_nil _ _ _ _ _ | exact Kd.N_nil _ _ _ _ _ | exact Kd.V_nil _ _ _ _ _ | exact Kd.Q_nil _ _ _ _ _ | exact Kd.R_nil _ _ _ _ _, by repeat (first | (with_reducible first | exact HB.out | apply below_alloc | apply pw_below_drewN | apply below_drew1) | exact HB.out)⟩
   ·replace c5 := Bool.eq_false_iff.mpr c5
    subst c5
    have H1 : (if 0 ≤ (wrap64 ((wrap64 ((l0.length : Int) + (l1.length : Int))) - 1)) then (if (wrap64 ((wrap64 ((l0.length : Int) + (l1.length : Int))) - 1) : Int).toNat ≤ 8796093022208 then (poly_Mul.l0 kj2 l1 (List.replicate (wrap64 ((wrap64 ((l0.length : Int) + (l1.length : Int))) - 1) : Int).toNat z39) 0 l0 (l0.length : Int) 0) else (none)) else (none)) = some (r1, r2) := by rw [if_neg (show ¬ (false = true) by decide)] at H; exact H
    clear H
    have H := H1
    clear H1
    obtain ⟨ji6, hji6⟩ : ∃ j_ : Int, (wrap64 ((wrap64 ((l0.length : Int) + (l1.length : Int))) - 1)) = j_ := ⟨_, rfl⟩
    replace H : (if 0 ≤ (ji6) then (if (ji6 : Int).toNat ≤ 8796093022208 then (poly_Mul.l0 kj2 l1 (List.replicate (ji6 : Int).toNat z39) 0 l0 (l0.length : Int) 0) else (none)) else (none)) = some (r1, r2) := by first | (rw [hji6] at H; exact H) | (simp only [hji6] at H ⊢; exact H)
    have hji6w : (IntKind.i64.wrap ((wrap64 ((l0.length : Int) + (l1.length : Int))) - 1)) = ji6 := (i64_w _).trans hji6
    by_cases c7 : 0 ≤ (ji6)
    ·rw [if_pos c7] at H
     have c7b0 := eq_true c7
     have c7b1 : decide (0 ≤ (ji6)) = true := decide_eq_true c7
     clear c7
     by_cases c8 : (ji6 : Int).toNat ≤ 8796093022208
     ·rw [if_pos c8] at H
      have c8b0 := eq_true c8
      have c8b1 : decide ((ji6 : Int).toNat ≤ 8796093022208) = true := decide_eq_true c8
      clear c8
      obtain ⟨y741, hy741⟩ : ∃ y_ : List (S39), y_ = (List.replicate (ji6 : Int).toNat z39) := ⟨_, rfl⟩
      replace H : (poly_Mul.l0 kj2 l1 y741 0 l0 (l0.length : Int) 0) = some (r1, r2) := by first | (rw [hy741]; with_reducible exact H) | (have H2_ := (Option.bind_some _ _).symm.trans H; rw [hy741]; with_reducible exact H2_) | (have H2_ := (Option.bind_some _ _).symm.trans H; with_reducible exact H2_) | with_reducible exact H | (rw [hy741]; exact H) | exact H
      have Ny741 := Aside0.mk hy741
      clear hy741
      have H' := Aside0.mk H
      clear H
      go_wp2_with (first | ((with_reducible refine gate_dst (N := 26) rfl ?_); (try (refine gate_guard (by rfl) ?_; dsimp only)); refine Kd.N_make k39 _ 39 rfl (N' := 26) rfl 24 _ _ rfl ji6 rfl rfl Tryd.underlying24 (.agg #[(.bool false), (.slice none 0 0)]) 32 info39 rfl (by decide) (by omega) z39 (ok := fun k_ => wc.heap.size ≤ k_) (okp := fun _ => False) (k39_mkF _ _ z39 (Nat.le_refl _) (Kd.F_nil _ _ _)) (fun _ hk => hk.elim) (Nat.le_refl _) (of_decide_eq_true (by first | (with_reducible assumption) | assumption)) (Nat.le_trans (Nat.mul_le_mul_right _ (of_decide_eq_true (by first | (with_reducible assumption) | assumption) : ji6.toNat ≤ 8796093022208)) (by omega)) (Below.refl _ _) (Nat.le_refl _) ?_; intro v742 w9 ho10 hb hg_ hnew_; clear hg_ hnew_; (first | rw [← Ny741.out] at ho10 | (simp only [Int.reduceToNat] at ho10; rw [← Ny741.out] at ho10)); have n0_ := Aside0.mk (Kd.V_elder' (lV HO_0) (Kd.N_base ho10) hb); have n1_ := Aside0.mk (Kd.N_lower (Kd.N_mono (ok' := fun k_ => (P0_ k_ ∨ w.heap.size ≤ k_)) ho10 (fun k_ hk_ => (.inr (Nat.le_trans (below_size (lB HB)) hk_)))) (below_size (lB HB))); have n2_ := Aside0.mk (below_step (lB HB) hb); clear HO_0 HB; have HO_0 := n0_; have HO743 := n1_; have HB := n2_; clear n0_ n1_ n2_; clear hb ho10))
      go_loopg [7, 29] kj2 (fun kq v7 v29 w' => ∃ (x6_2 : List (S39)) (x7_2 : Int) (x29_2 : Int), v7 = .int .i64 x7_2 ∧ v29 = .int .i64 x29_2 ∧ Aside0 (poly_Mul.l0 kq l1 x6_2 x7_2 l0 (l0.length : Int) x29_2 = some (r1, r2)) ∧ Aside0 (kq ≤ kj2) ∧ Aside0 (Kd.N k39 39 w' w.heap.size (fun k_ => (P0_ k_ ∨ w.heap.size ≤ k_)) v742 x6_2) ∧ Aside0 (Kd.V k39 39 w' w.heap.size (fun k_ => (P0_ k_ ∨ w.heap.size ≤ k_) ∧ some k_ ≠ (v742 : Value).ownBlock) (.slice A0 l0.length c0) l0) ∧ Aside0 (Below w.heap.size w w'))
      case atStart => exact ⟨(y741), (0), (0), (by first | rfl | (simp; done) | (simp [*]; done)), (by first | rfl | (simp; done) | (simp [*]; done)), H', ⟨Nat.le_refl _⟩, ⟨by (with_reducible repeat (first | apply Kd.N_alloc | apply Kd.N_drewN | apply Kd.N_drew)); exact HO743.out⟩, ⟨by (with_reducible repeat (first | apply Kd.V_alloc | apply Kd.V_drewN | apply Kd.V_drew)); exact HO_0.out⟩, ⟨by repeat (first | (with_reducible first | exact HB.out | apply below_alloc | apply pw_below_drewN | apply below_drew1) | exact HB.out)⟩⟩
      case round =>
       clear H'
       try clear c1
       try clear c5
       try clear c7
       try clear c8
       obtain ⟨x6_2, x7_2, x29_2, rfl, rfl, HA, HK2, HO_6, HO_27, HB⟩ := hrel
       cases gk with
       | zero => exact absurd HA.out (by simp [poly_Mul.l0])
       | succ k2 =>
        have H := HA.out
        clear HA
        simp only [poly_Mul.l0] at H
        by_cases c11 : x29_2 < (l0.length : Int)
        ·rw [if_pos c11] at H
         have c11b0 : decide (x29_2 < (l0.length : Int)) = true := decide_eq_true c11
         clear c11
         by_cases c12 : 0 ≤ x29_2
         ·rw [if_pos c12] at H
          have c12b0 : decide (0 ≤ x29_2) = true := decide_eq_true c12
          clear c12
          by_cases c13 : x29_2 < (l0.length : Int)
          ·rw [if_pos c13] at H
           have c13b0 : decide (x29_2 < (l0.length : Int)) = true := decide_eq_true c13
           clear c13
           have H' := Aside0.mk H
           clear H
           have p744 : 0 ≤ (x29_2 : Int) := of_decide_eq_true (by first | (with_reducible assumption) | assumption)
           have q744 : x29_2 < (l0.length : Int) := of_decide_eq_true (by first | (with_reducible assumption) | assumption)
           obtain ⟨ad744, A744_1, c744_1, e744, hx744_0, hx744_1, hl744_1, hi744_1⟩ := at_T39 (Kd.V_reads' HO_27.out).2.2 x29_2 p744 q744
           cases e744
           obtain ⟨ce744, hce744, hMe744, hcc744⟩ := Kd.V_get HO_27.out z39 x29_2 p744 (by first | exact q744 | exact of_decide_eq_true (by first | (with_reducible assumption) | assumption) | (have e_ := (Kd.V_reads' HO_27.out).1; omega))
           obtain ⟨ua744_1, uc744_1, rfl, ul744_1, ge744_1⟩ := k39_openF hMe744
           have hv744_1 := hcc744 1 _ rfl
           rw [add_field _ _ 1 (by omega)] at hv744_1
           replace hv744_1 := Option.some.inj (hv744_1.symm.trans hx744_1)
           injection hv744_1 with hva_ hvn_ hvc_
           rw [hva_] at ge744_1
           rw [hvc_] at ul744_1
           have HL744_1 := Aside0.mk (show Kd.V (Kd.int .u32) 76 _ w.heap.size _ _ ((rd_T39 l0 x29_2).f1) from Kd.V_mk ul744_1 ge744_1)
           clear hva_ hvn_ hvc_ ge744_1 ul744_1
           clear hcc744 hce744
           have HR744_1 := Aside0.mk hi744_1
           have HC744_1 := Aside0.mk hl744_1
           clear hi744_1 hl744_1
           replace p744 := eq_true p744
           replace q744 := eq_true q744
           go_wp2_with (first | ((with_reducible refine gate_dst (N := 9) rfl ?_); (try (refine gate_guard (by rfl) ?_; dsimp only)); refine box_event ?hg (N := 9) ?hd (cs := #[.bool false, .slice none 0 0]) (t := 39) ?hr ?_; (case hd => rfl); (case hg => rfl); (case hr => first | (go_simp; done) | (go_simp; rfl)); intro gb745 hg w14 hbox hb; have n0_ := Aside0.mk (Kd.N_below (Kd.N_elderB (lN HO_6) gb745 (Nat.le_of_eq hg.symm)) hb); have n1_ := Aside0.mk (Kd.V_below (Kd.V_elderB (lV HO_27) gb745 (Nat.le_of_eq hg.symm)) hb); have n2_ := Aside0.mk (Kd.V_below (Kd.V_elderB (lV HL744_1) gb745 (Nat.le_of_eq hg.symm)) hb); have n3_ := Aside0.mk (Kd.C_below (by repeat (first | (with_reducible exact HR744_1.out) | (with_reducible refine Kd.C_alloc ?_ _) | (with_reducible refine Kd.C_drewN ?_ _) | (with_reducible refine Kd.C_drew ?_) | exact HR744_1.out)) hb); have n4_ := Aside0.mk (below_step (lB HB) hb); have n5_ := Aside0.mk (hbox); have n6_ := Aside0.mk ((by rw [hg]; exact (below_size (lB HB)) : w.heap.size ≤ gb745)); have n7_ := Aside0.mk ((by rw [hg]; exact (below_size (lB HB)) : w.heap.size ≤ gb745)); clear HO_6 HO_27 HL744_1 HR744_1 HB; have HO_6 := n0_; have HO_27 := n1_; have HL744_1 := n2_; have HR744_1 := n3_; have HB := n4_; have BK745 := n5_; have GW745 := n6_; have GE745 := n7_; clear n0_ n1_ n2_ n3_ n4_ n5_ n6_ n7_; clear hb hbox hg; have hcz15_0 : w14.cell? ⟨gb745, 0, none⟩ = some (.bool false) := (blk_cell BK745.out 0).trans rfl; have hcz15_1 : w14.cell? ⟨gb745, 1, none⟩ = some (.slice none 0 0) := (blk_cell BK745.out 1).trans rfl; have hfz15_0 := blk_frozen BK745.out 0; have hfz15_1 := blk_frozen BK745.out 1))
           go_loopg [7, 36] k2 (fun kq v7 v36 w' => ∃ (x6_3 : List (S39)) (x7_3 : Int) (x36_3 : Int) (x746000_3 : Bool) (x746001_3 : List Int) (u746001 : Value), v7 = .int .i64 x7_3 ∧ v36 = .int .i64 x36_3 ∧ Aside0 (poly_Mul.l1 kq l1 x6_3 x7_3 x29_2 l0 (l0.length : Int) x29_2 l1 (l1.length : Int) x36_3 x746000_3 x746001_3 = some (r1, r2)) ∧ Aside0 (kq ≤ k2) ∧ Aside0 (Kd.N k39 39 w' w.heap.size (fun k_ => (P0_ k_ ∨ w.heap.size ≤ k_) ∧ k_ ≠ gb745) v742 x6_3) ∧ Aside0 (Kd.V k39 39 w' w.heap.size (fun k_ => (P0_ k_ ∨ w.heap.size ≤ k_) ∧ some k_ ≠ (v742 : Value).ownBlock ∧ k_ ≠ gb745) (.slice (some ad744) l0.length c0) l0) ∧ Aside0 (Kd.V (Kd.int .u32) 76 w' w.heap.size (fun k_ => (P0_ k_ ∨ w.heap.size ≤ k_) ∧ some k_ ≠ (v742 : Value).ownBlock ∧ k_ ≠ gb745) u746001 x746001_3) ∧ Aside0 (w'.heap[gb745]? = some (.cells #[.bool x746000_3, u746001] 39 (0, 0))) ∧ Aside0 (Below w.heap.size w w'))
           case atStart => exact ⟨(x6_2), (x7_2), (0), ((rd_T39 l0 x29_2).f0), ((rd_T39 l0 x29_2).f1), (.slice A744_1 ((rd_T39 l0 x29_2).f1).length c744_1), (by first | rfl | (simp; done) | (simp [*]; done)), (by first | rfl | (simp; done) | (simp [*]; done)), H', ⟨Nat.le_refl _⟩, ⟨by (with_reducible repeat (first | apply Kd.N_alloc | apply Kd.N_drewN | apply Kd.N_drew)); exact Kd.N_mono (Kd.N_far (p := ⟨gb745, 1, none⟩) (Kd.N_far (p := ⟨gb745, 0, none⟩) (Kd.N_mono HO_6.out (fun k_ hk => (⟨hk, hk.2⟩ : _ ∧ k_ ≠ gb745))) (fun _ hk => hk.2) (.bool ((rd_T39 l0 x29_2).f0))) (fun _ hk => hk.2) (.slice A744_1 ((rd_T39 l0 x29_2).f1).length c744_1)) (fun _ hk => ⟨hk.1.1, hk.1.2⟩)⟩, ⟨by (with_reducible repeat (first | apply Kd.V_alloc | apply Kd.V_drewN | apply Kd.V_drew)); exact Kd.V_mono (Kd.V_far (p := ⟨gb745, 1, none⟩) (Kd.V_far (p := ⟨gb745, 0, none⟩) (Kd.V_mono HO_27.out (fun k_ hk => (⟨hk, hk.2⟩ : _ ∧ k_ ≠ gb745))) (fun _ hk => hk.2) (.bool ((rd_T39 l0 x29_2).f0))) (fun _ hk => hk.2) (.slice A744_1 ((rd_T39 l0 x29_2).f1).length c744_1)) (fun _ hk => ⟨hk.1.1.1, ⟨hk.1.1.2, hk.1.2⟩⟩)⟩, ⟨by (with_reducible repeat (first | apply Kd.V_alloc | apply Kd.V_drewN | apply Kd.V_drew)); exact Kd.V_mono (Kd.V_far (p := ⟨gb745, 1, none⟩) (Kd.V_far (p := ⟨gb745, 0, none⟩) (Kd.V_mono HL744_1.out (fun k_ hk => (⟨hk, hk.2⟩ : _ ∧ k_ ≠ gb745))) (fun _ hk => hk.2) (.bool ((rd_T39 l0 x29_2).f0))) (fun _ hk => hk.2) (.slice A744_1 ((rd_T39 l0 x29_2).f1).length c744_1)) (fun _ hk => ⟨hk.1.1.1, ⟨hk.1.1.2, hk.1.2⟩⟩)⟩, ⟨by (with_reducible repeat (first | refine blk_drewN ?_ _ | refine blk_drew ?_ | refine blk_alloc ?_ _)); refine blk_put (cs := #[.bool ((rd_T39 l0 x29_2).f0), .slice none 0 0]) ?_ 1 _ rfl; (with_reducible repeat (first | refine blk_drewN ?_ _ | refine blk_drew ?_ | refine blk_alloc ?_ _)); refine blk_put (cs := #[.bool false, .slice none 0 0]) ?_ 0 _ rfl; (with_reducible repeat (first | refine blk_drewN ?_ _ | refine blk_drew ?_ | refine blk_alloc ?_ _)); exact BK745.out⟩, ⟨by repeat (first | (with_reducible first | exact HB.out | apply below_alloc | apply pw_below_drewN | apply below_drew1 | refine below_set ?_ GE745.out) | exact HB.out)⟩⟩
           case round =>
            clear H'
            try clear c1
            try clear c5
            try clear c7
            try clear c8
            try clear c11
            try clear c12
            try clear c13
            obtain ⟨x6_3, x7_3, x36_3, x746000_3, x746001_3, u746001, rfl, rfl, HA, HK3, HO_6, HO_27, HO_746001, BK745, HB⟩ := hrel
            cases gk with
            | zero => exact absurd HA.out (by simp [poly_Mul.l1])
            | succ k3 =>
             have H := HA.out
             clear HA
             simp only [poly_Mul.l1] at H
             by_cases c16 : x36_3 < (l1.length : Int)
             ·rw [if_pos c16] at H
              have c16b0 : decide (x36_3 < (l1.length : Int)) = true := decide_eq_true c16
              clear c16
              by_cases c17 : 0 ≤ x36_3
              ·rw [if_pos c17] at H
               have c17b0 : decide (0 ≤ x36_3) = true := decide_eq_true c17
               clear c17
               by_cases c18 : x36_3 < (l1.length : Int)
               ·rw [if_pos c18] at H
                have c18b0 : decide (x36_3 < (l1.length : Int)) = true := decide_eq_true c18
                clear c18
                obtain ⟨ji19, hji19⟩ : ∃ j_ : Int, (wrap64 (x29_2 + x36_3)) = j_ := ⟨_, rfl⟩
                replace H : (if 0 ≤ (ji19) then (if (ji19) < (x6_3.length : Int) then ((integer_Int_Mul.f k3 x746000_3 x746001_3 ((rd_T39 l1 x36_3).f0) ((rd_T39 l1 x36_3).f1)).bind fun bt749 => ((integer_Int_Add.f k3 ((rd_T39 x6_3 (ji19)).f0) ((rd_T39 x6_3 (ji19)).f1) bt749.1 bt749.2).bind fun bt753 => (poly_Mul.l1 k3 l1 (x6_3.set ((ji19) : Int).toNat (⟨bt753.1, bt753.2⟩ : S39)) (wrap64 (x7_3 + 1)) x29_2 l0 (l0.length : Int) x29_2 l1 (l1.length : Int) (wrap64 (x36_3 + 1)) x746000_3 x746001_3))) else (none)) else (none)) = some (r1, r2) := by first | (rw [hji19] at H; exact H) | (simp only [hji19] at H ⊢; exact H)
                have hji19w : (IntKind.i64.wrap (x29_2 + x36_3)) = ji19 := (i64_w _).trans hji19
                by_cases c20 : 0 ≤ (ji19)
                ·rw [if_pos c20] at H
                 have c20b0 : decide (0 ≤ (ji19)) = true := decide_eq_true c20
                 clear c20
                 by_cases c21 : (ji19) < (x6_3.length : Int)
                 ·rw [if_pos c21] at H
                  have c21b0 : decide ((ji19) < (x6_3.length : Int)) = true := decide_eq_true c21
                  clear c21
                  replace H := Option.bind_eq_some_iff.mp H
                  obtain ⟨⟨t749, t750⟩, A220, H⟩ := H
                  replace H : ((integer_Int_Add.f k3 ((rd_T39 x6_3 (ji19)).f0) ((rd_T39 x6_3 (ji19)).f1) t749 t750).bind fun bt753 => (poly_Mul.l1 k3 l1 (x6_3.set ((ji19) : Int).toNat (⟨bt753.1, bt753.2⟩ : S39)) (wrap64 (x7_3 + 1)) x29_2 l0 (l0.length : Int) x29_2 l1 (l1.length : Int) (wrap64 (x36_3 + 1)) x746000_3 x746001_3)) = some (r1, r2) := H
                  have A22 := Aside0.mk A220
                  clear A220
                  replace H := Option.bind_eq_some_iff.mp H
                  obtain ⟨⟨t753, t754⟩, A230, H⟩ := H
                  replace H : (poly_Mul.l1 k3 l1 (x6_3.set ((ji19) : Int).toNat (⟨t753, t754⟩ : S39)) (wrap64 (x7_3 + 1)) x29_2 l0 (l0.length : Int) x29_2 l1 (l1.length : Int) (wrap64 (x36_3 + 1)) x746000_3 x746001_3) = some (r1, r2) := H
                  have A23 := Aside0.mk A230
                  clear A230
                  obtain ⟨y757, hy757⟩ : ∃ y_ : List (S39), y_ = (x6_3.set ((ji19) : Int).toNat (⟨t753, t754⟩ : S39)) := ⟨_, rfl⟩
                  replace H : (poly_Mul.l1 k3 l1 y757 (wrap64 (x7_3 + 1)) x29_2 l0 (l0.length : Int) x29_2 l1 (l1.length : Int) (wrap64 (x36_3 + 1)) x746000_3 x746001_3) = some (r1, r2) := by first | (rw [hy757]; with_reducible exact H) | (have H2_ := (Option.bind_some _ _).symm.trans H; rw [hy757]; with_reducible exact H2_) | (have H2_ := (Option.bind_some _ _).symm.trans H; with_reducible exact H2_) | with_reducible exact H | (rw [hy757]; exact H) | exact H
                  have Ny757 := Aside0.mk hy757
                  clear hy757
                  have H' := Aside0.mk H
                  clear H
                  have p746 : 0 ≤ (x36_3 : Int) := of_decide_eq_true (by first | (with_reducible assumption) | assumption)
                  have q746 : x36_3 < (l1.length : Int) := of_decide_eq_true (by first | (with_reducible assumption) | assumption)
                  obtain ⟨ad746, A746_1, c746_1, e746, hx746_0, hx746_1, hl746_1, hi746_1⟩ := at_T39 HR1.out x36_3 p746 q746
                  cases e746
                  replace hx746_0 := (HB.out.cell (World.block_lt_of_cell? w _ hx746_0)).trans hx746_0
                  replace hx746_1 := (HB.out.cell (World.block_lt_of_cell? w _ hx746_1)).trans hx746_1
                  have HR746_1 := Aside0.mk hi746_1
                  have HC746_1 := Aside0.mk hl746_1
                  clear hi746_1 hl746_1
                  replace p746 := eq_true p746
                  replace q746 := eq_true q746
                  try go_wp2_with (first | ((with_reducible refine gate_dst (N := 11) rfl ?_); (try (refine gate_guard (by rfl) ?_; dsimp only)); refine box_event ?hg (N := 11) ?hd (cs := #[.bool false, .slice none 0 0]) (t := 39) ?hr ?_; (case hd => rfl); (case hg => rfl); (case hr => first | (go_simp; done) | (go_simp; rfl)); intro gb747 hg w25 hbox hb; have n0_ := Aside0.mk (Kd.N_below (Kd.N_elderB (lN HO_6) gb747 (Nat.le_of_eq hg.symm)) hb); have n1_ := Aside0.mk (Kd.V_below (Kd.V_elderB (lV HO_27) gb747 (Nat.le_of_eq hg.symm)) hb); have n2_ := Aside0.mk (Kd.V_below (Kd.V_elderB (lV HO_746001) gb747 (Nat.le_of_eq hg.symm)) hb); have n3_ := Aside0.mk (blk_below (g := gb745) (o := .cells #[.bool x746000_3, u746001] 39 (0, 0)) (lK BK745) hb); have n4_ := Aside0.mk (below_step (by repeat (first | (with_reducible first | exact HB.out | apply below_alloc | apply pw_below_drewN | apply below_drew1 | refine below_set ?_ GE745.out) | exact HB.out)) hb); have n5_ := Aside0.mk (hbox); have n6_ := Aside0.mk ((by rw [hg]; exact (below_size (by repeat (first | (with_reducible first | exact HB.out | apply below_alloc | apply pw_below_drewN | apply below_drew1 | refine below_set ?_ GE745.out) | exact HB.out))) : w.heap.size ≤ gb747)); have n7_ := Aside0.mk ((by rw [hg]; exact (below_size (by repeat (first | (with_reducible first | exact HB.out | apply below_alloc | apply pw_below_drewN | apply below_drew1 | refine below_set ?_ GE745.out) | exact HB.out))) : w.heap.size ≤ gb747)); have n8_ := Aside0.mk ((by rw [hg]; exact Nat.ne_of_lt (blk_lt (g := gb745) (o := .cells #[.bool x746000_3, u746001] 39 (0, 0)) (lK BK745)) : gb745 ≠ gb747)); have n9_ := Aside0.mk ((by rw [hg]; exact Nat.ne_of_gt (blk_lt (g := gb745) (o := .cells #[.bool x746000_3, u746001] 39 (0, 0)) (lK BK745)) : gb747 ≠ gb745)); clear HO_6 HO_27 HO_746001; clear BK745; clear HB; have HO_6 := n0_; have HO_27 := n1_; have HO_746001 := n2_; have BK745 := n3_; have HB := n4_; have BK747 := n5_; have GW747 := n6_; have GE747 := n7_; have NB745_747 := n8_; have NB747_745 := n9_; clear n0_ n1_ n2_ n3_ n4_ n5_ n6_ n7_ n8_ n9_; clear hb hbox hg; have hnb26 := NB747_745.out; have hnc26 := NB745_747.out; have hcz27_0 : w25.cell? ⟨gb747, 0, none⟩ = some (.bool false) := (blk_cell BK747.out 0).trans rfl; have hcz27_1 : w25.cell? ⟨gb747, 1, none⟩ = some (.slice none 0 0) := (blk_cell BK747.out 1).trans rfl; have hfz27_0 := blk_frozen BK747.out 0; have hfz27_1 := blk_frozen BK747.out 1))
                  have n0_ : Aside0 (Kd.N k39 39 ((w25.setCell ⟨gb747, 0, none⟩ (.bool ((rd_T39 l1 x36_3).f0))).setCell ⟨gb747, 1, none⟩ (.slice A746_1 ((rd_T39 l1 x36_3).f1).length c746_1)) w.heap.size (fun k_ => (P0_ k_ ∨ w.heap.size ≤ k_) ∧ k_ ≠ gb745 ∧ k_ ≠ gb747) v742 x6_3) := ⟨by (with_reducible repeat (first | apply Kd.N_alloc | apply Kd.N_drewN | apply Kd.N_drew)); exact Kd.N_mono (Kd.N_far (p := ⟨gb747, 1, none⟩) (Kd.N_far (p := ⟨gb747, 0, none⟩) (Kd.N_mono HO_6.out (fun k_ hk => (⟨hk, hk.2⟩ : _ ∧ k_ ≠ gb747))) (fun _ hk => hk.2) (.bool ((rd_T39 l1 x36_3).f0))) (fun _ hk => hk.2) (.slice A746_1 ((rd_T39 l1 x36_3).f1).length c746_1)) (fun _ hk => ⟨hk.1.1.1, ⟨hk.1.1.2, hk.1.2⟩⟩)⟩
                  have n1_ : Aside0 (Kd.V k39 39 ((w25.setCell ⟨gb747, 0, none⟩ (.bool ((rd_T39 l1 x36_3).f0))).setCell ⟨gb747, 1, none⟩ (.slice A746_1 ((rd_T39 l1 x36_3).f1).length c746_1)) w.heap.size (fun k_ => (P0_ k_ ∨ w.heap.size ≤ k_) ∧ some k_ ≠ (v742 : Value).ownBlock ∧ k_ ≠ gb745 ∧ k_ ≠ gb747) (.slice (some ad744) l0.length c0) l0) := ⟨by (with_reducible repeat (first | apply Kd.V_alloc | apply Kd.V_drewN | apply Kd.V_drew)); exact Kd.V_mono (Kd.V_far (p := ⟨gb747, 1, none⟩) (Kd.V_far (p := ⟨gb747, 0, none⟩) (Kd.V_mono HO_27.out (fun k_ hk => (⟨hk, hk.2⟩ : _ ∧ k_ ≠ gb747))) (fun _ hk => hk.2) (.bool ((rd_T39 l1 x36_3).f0))) (fun _ hk => hk.2) (.slice A746_1 ((rd_T39 l1 x36_3).f1).length c746_1)) (fun _ hk => ⟨hk.1.1.1, ⟨hk.1.1.2.1, ⟨hk.1.1.2.2, hk.1.2⟩⟩⟩)⟩
                  have n2_ : Aside0 (Kd.V (Kd.int .u32) 76 ((w25.setCell ⟨gb747, 0, none⟩ (.bool ((rd_T39 l1 x36_3).f0))).setCell ⟨gb747, 1, none⟩ (.slice A746_1 ((rd_T39 l1 x36_3).f1).length c746_1)) w.heap.size (fun k_ => (P0_ k_ ∨ w.heap.size ≤ k_) ∧ some k_ ≠ (v742 : Value).ownBlock ∧ k_ ≠ gb745 ∧ k_ ≠ gb747) u746001 x746001_3) := ⟨by (with_reducible repeat (first | apply Kd.V_alloc | apply Kd.V_drewN | apply Kd.V_drew)); exact Kd.V_mono (Kd.V_far (p := ⟨gb747, 1, none⟩) (Kd.V_far (p := ⟨gb747, 0, none⟩) (Kd.V_mono HO_746001.out (fun k_ hk => (⟨hk, hk.2⟩ : _ ∧ k_ ≠ gb747))) (fun _ hk => hk.2) (.bool ((rd_T39 l1 x36_3).f0))) (fun _ hk => hk.2) (.slice A746_1 ((rd_T39 l1 x36_3).f1).length c746_1)) (fun _ hk => ⟨hk.1.1.1, ⟨hk.1.1.2.1, ⟨hk.1.1.2.2, hk.1.2⟩⟩⟩)⟩
                  have n3_ : Aside0 (((w25.setCell ⟨gb747, 0, none⟩ (.bool ((rd_T39 l1 x36_3).f0))).setCell ⟨gb747, 1, none⟩ (.slice A746_1 ((rd_T39 l1 x36_3).f1).length c746_1)).heap[gb745]? = some (.cells #[.bool x746000_3, u746001] 39 (0, 0))) := ⟨by (with_reducible repeat (first | refine blk_drewN ?_ _ | refine blk_drew ?_ | refine blk_alloc ?_ _)); refine blk_far ?_ NB745_747.out _; (with_reducible repeat (first | refine blk_drewN ?_ _ | refine blk_drew ?_ | refine blk_alloc ?_ _)); refine blk_far ?_ NB745_747.out _; (with_reducible repeat (first | refine blk_drewN ?_ _ | refine blk_drew ?_ | refine blk_alloc ?_ _)); exact BK745.out⟩
                  have n4_ : Aside0 (((w25.setCell ⟨gb747, 0, none⟩ (.bool ((rd_T39 l1 x36_3).f0))).setCell ⟨gb747, 1, none⟩ (.slice A746_1 ((rd_T39 l1 x36_3).f1).length c746_1)).heap[gb747]? = some (.cells #[.bool ((rd_T39 l1 x36_3).f0), .slice A746_1 ((rd_T39 l1 x36_3).f1).length c746_1] 39 (0, 0))) := ⟨by (with_reducible repeat (first | refine blk_drewN ?_ _ | refine blk_drew ?_ | refine blk_alloc ?_ _)); refine blk_put (cs := #[.bool ((rd_T39 l1 x36_3).f0), .slice none 0 0]) ?_ 1 _ rfl; (with_reducible repeat (first | refine blk_drewN ?_ _ | refine blk_drew ?_ | refine blk_alloc ?_ _)); refine blk_put (cs := #[.bool false, .slice none 0 0]) ?_ 0 _ rfl; (with_reducible repeat (first | refine blk_drewN ?_ _ | refine blk_drew ?_ | refine blk_alloc ?_ _)); exact BK747.out⟩
                  have n5_ : Aside0 (Below w.heap.size w ((w25.setCell ⟨gb747, 0, none⟩ (.bool ((rd_T39 l1 x36_3).f0))).setCell ⟨gb747, 1, none⟩ (.slice A746_1 ((rd_T39 l1 x36_3).f1).length c746_1))) := ⟨by repeat (first | (with_reducible first | exact HB.out | apply below_alloc | apply pw_below_drewN | apply below_drew1 | refine below_set ?_ GE745.out | refine below_set ?_ GE747.out) | exact HB.out)⟩
                  (try clear HO_6)
                  (try clear HO_27)
                  (try clear HO_746001)
                  (try clear BK745)
                  (try clear BK747)
                  (try clear HB)
                  generalize ((w25.setCell ⟨gb747, 0, none⟩ (.bool ((rd_T39 l1 x36_3).f0))).setCell ⟨gb747, 1, none⟩ (.slice A746_1 ((rd_T39 l1 x36_3).f1).length c746_1)) = w28 at n0_ n1_ n2_ n3_ n4_ n5_ ⊢
                  have HO_6 := n0_
                  have HO_27 := n1_
                  have HO_746001 := n2_
                  have BK745 := n3_
                  have BK747 := n4_
                  have HB := n5_
                  clear n0_ n1_ n2_ n3_ n4_ n5_
                  have n0_ := Aside0.mk (Kd.N_drew HO_6.out)
                  have n1_ := Aside0.mk (Kd.V_drew HO_27.out)
                  have n2_ := Aside0.mk (Kd.V_drew HO_746001.out)
                  have n3_ := Aside0.mk (blk_drew BK745.out)
                  have n4_ := Aside0.mk (blk_drew BK747.out)
                  have n5_ := Aside0.mk (below_drew1 HB.out)
                  clear HO_6
                  clear HO_27
                  clear HO_746001
                  clear BK745
                  clear BK747
                  clear HB
                  have HO_6 := n0_
                  have HO_27 := n1_
                  have HO_746001 := n2_
                  have BK745 := n3_
                  have BK747 := n4_
                  have HB := n5_
                  clear n0_ n1_ n2_ n3_ n4_ n5_
                  obtain ⟨Ao30, co30, eo30⟩ := Kd.N_slice HO_6.out
                  (first | subst eo30 | (injection eo30 with f1_ f2_ f3_; have f4_ := f1_.symm; have f5_ := f3_.symm; clear f1_ f2_ f3_; subst f4_; subst f5_))
                  have p748 : 0 ≤ ((ji19) : Int) := of_decide_eq_true (by first | (with_reducible assumption) | assumption)
                  have q748 : (ji19) < (x6_3.length : Int) := of_decide_eq_true (by first | (with_reducible assumption) | assumption)
                  obtain ⟨ad748, A748_1, c748_1, e748, hx748_0, hx748_1, hl748_1, hi748_1⟩ := at_T39 (Kd.N_reads' HO_6.out).2.2 (ji19) p748 q748
                  cases e748
                  obtain ⟨ce748, hce748, hMe748, hcc748⟩ := Kd.N_get HO_6.out z39 (ji19) p748 (by first | exact q748 | exact of_decide_eq_true (by first | (with_reducible assumption) | assumption) | (have e_ := (Kd.N_reads' HO_6.out).1; omega))
                  obtain ⟨ua748_1, uc748_1, rfl, ul748_1, ge748_1⟩ := k39_openF hMe748
                  have hv748_1 := hcc748 1 _ rfl
                  rw [add_field _ _ 1 (by omega)] at hv748_1
                  replace hv748_1 := Option.some.inj (hv748_1.symm.trans hx748_1)
                  injection hv748_1 with hva_ hvn_ hvc_
                  rw [hva_] at ge748_1
                  rw [hvc_] at ul748_1
                  have HL748_1 := Aside0.mk (show Kd.V (Kd.int .u32) 76 _ w.heap.size _ _ ((rd_T39 x6_3 (ji19)).f1) from Kd.V_mk ul748_1 ge748_1)
                  clear hva_ hvn_ hvc_ ge748_1 ul748_1
                  clear hcc748 hce748
                  have HR748_1 := Aside0.mk hi748_1
                  have HC748_1 := Aside0.mk hl748_1
                  clear hi748_1 hl748_1
                  replace p748 := eq_true p748
                  replace q748 := eq_true q748
                  obtain ⟨Ao31, co31, eo31⟩ := Kd.V_slice HO_746001.out
                  (first | subst eo31 | (injection eo31 with f1_ f2_ f3_; have f4_ := f1_.symm; have f5_ := f3_.symm; clear f1_ f2_ f3_; subst f4_; subst f5_))
                  refine start_ (n := 16) (S := fun w' => w'.cell? ⟨gb745, 0, none⟩ = some (.bool x746000_3) ∧ w'.cell? ⟨gb745, 1, none⟩ = some (.slice Ao31 x746001_3.length co31) ∧ w'.cell? ⟨gb747, 0, none⟩ = some (.bool ((rd_T39 l1 x36_3).f0)) ∧ w'.cell? ⟨gb747, 1, none⟩ = some (.slice A746_1 ((rd_T39 l1 x36_3).f1).length c746_1) ∧ w'.cell? (ad748.add (((ji19)).toNat * 2)) = some (.bool ((rd_T39 x6_3 (ji19)).f0)) ∧ w'.cell? ⟨(ad748.add (((ji19)).toNat * 2)).block, (ad748.add (((ji19)).toNat * 2)).off + 1, none⟩ = some (.slice A748_1 ((rd_T39 x6_3 (ji19)).f1).length c748_1)) (ds := [15]) #[false, false, false, false, false, false, false, false, false, false, false, false, false, false, false, false] (by kernel_rfl) rfl rfl ⟨(blk_cell BK745.out 0).trans rfl, (blk_cell BK745.out 1).trans rfl, (blk_cell BK747.out 0).trans rfl, (blk_cell BK747.out 1).trans rfl, hx748_0, hx748_1⟩ (fun hHeld => ?_); refine with_tabW poly_Mul.tab11 poly_Mul.bits11 (fun HT_ HW_ => ?_)
                  generalize w28.drew = w29 at HO_6 HO_27 HO_746001 BK745 BK747 HB HL748_1 HR748_1 hx748_0 hx748_1 hHeld ⊢
                  refine pure_ (i := 0) (N := some 41) (v := ?_) (a' := ?_) #[true, false, false, false, false, false, false, false, false, false, false, false, false, false, false, false] rfl rfl (any_of HT_.out (by kernel_rfl)) (fun _ _ _ h => h) (Or.inl ⟨by rfl, ?_⟩) ?_ ?_
                  rotate_left
                  ·intro w'
                   go_simp
                   with_reducible rfl
                  rotate_left
                  ·simp only [Act.put, List.setIfInBounds_toArray, List.set_cons_zero, List.set_cons_succ, i64_w, i32_w]
                   rfl
                  refine pure_ (i := 1) (N := some 42) (v := ?_) (a' := ?_) #[true, true, false, false, false, false, false, false, false, false, false, false, false, false, false, false] rfl rfl (any_of HT_.out (by kernel_rfl)) (fun _ _ _ h => h) (Or.inl ⟨by rfl, ?_⟩) ?_ ?_
                  rotate_left
                  ·intro w'
                   go_simp
                   with_reducible rfl
                  rotate_left
                  ·simp only [Act.put, List.setIfInBounds_toArray, List.set_cons_zero, List.set_cons_succ, i64_w, i32_w]
                   rfl
                  refine pure_ (i := 2) (N := some 43) (v := ?_) (a' := ?_) #[true, true, true, false, false, false, false, false, false, false, false, false, false, false, false, false] rfl rfl (any_of HT_.out (by kernel_rfl)) (fun _ _ _ h => h) (Or.inl ⟨by rfl, ?_⟩) ?_ ?_
                  rotate_left
                  ·intro w'
                   go_simp
                   with_reducible rfl
                  rotate_left
                  ·simp only [Act.put, List.setIfInBounds_toArray, List.set_cons_zero, List.set_cons_succ, i64_w, i32_w]
                   rfl
                  refine pure_ (i := 3) (N := some 44) (v := ?_) (a' := ?_) #[true, true, true, true, false, false, false, false, false, false, false, false, false, false, false, false] rfl rfl (any_of HT_.out (by kernel_rfl)) (fun _ _ _ h => h) (Or.inl ⟨by rfl, ?_⟩) ?_ ?_
                  rotate_left
                  ·intro w'
                   go_simp
                   with_reducible rfl
                  rotate_left
                  ·simp only [Act.put, List.setIfInBounds_toArray, List.set_cons_zero, List.set_cons_succ, i64_w, i32_w]
                   rfl
                  refine pure_ (i := 4) (N := some 45) (v := ?_) (a' := ?_) #[true, true, true, true, true, false, false, false, false, false, false, false, false, false, false, false] rfl rfl (any_of HT_.out (by kernel_rfl)) (fun _ _ _ h => h) (Or.inl ⟨by rfl, ?_⟩) ?_ ?_
                  rotate_left
                  ·intro w'
                   go_simp
                   with_reducible rfl
                  rotate_left
                  ·simp only [Act.put, List.setIfInBounds_toArray, List.set_cons_zero, List.set_cons_succ, i64_w, i32_w]
                   rfl
                  refine pure_ (i := 5) (N := some 46) (v := ?_) (a' := ?_) #[true, true, true, true, true, true, false, false, false, false, false, false, false, false, false, false] rfl rfl (any_of HT_.out (by kernel_rfl)) (fun _ _ _ h => h) (Or.inl ⟨by rfl, ?_⟩) ?_ ?_
                  rotate_left
                  ·intro w'
                   go_simp
                   with_reducible rfl
                  rotate_left
                  ·simp only [Act.put, List.setIfInBounds_toArray, List.set_cons_zero, List.set_cons_succ, i64_w, i32_w]
                   rfl
                  refine pure_ (i := 6) (N := some 47) (v := ?_) (a' := ?_) #[true, true, true, true, true, true, true, false, false, false, false, false, false, false, false, false] rfl rfl (any_of HT_.out (by kernel_rfl)) (fun _ _ _ h => h) (Or.inl ⟨by rfl, ?_⟩) ?_ ?_
                  rotate_left
                  ·intro w'
                   go_simp
                   with_reducible rfl
                  rotate_left
                  ·simp only [Act.put, List.setIfInBounds_toArray, List.set_cons_zero, List.set_cons_succ, i64_w, i32_w]
                   rfl
                  refine pure_ (i := 7) (N := some 48) (v := ?_) (a' := ?_) #[true, true, true, true, true, true, true, true, false, false, false, false, false, false, false, false] rfl rfl (any_of HT_.out (by kernel_rfl)) (fun _ _ _ h => h) (Or.inl ⟨by rfl, ?_⟩) ?_ ?_
                  rotate_left
                  ·intro w'
                   go_simp
                   with_reducible rfl
                  rotate_left
                  ·simp only [Act.put, List.setIfInBounds_toArray, List.set_cons_zero, List.set_cons_succ, i64_w, i32_w]
                   rfl
                  refine pure_ (i := 8) (N := some 49) (v := ?_) (a' := ?_) #[true, true, true, true, true, true, true, true, true, false, false, false, false, false, false, false] rfl rfl (any_of HT_.out (by kernel_rfl)) (fun _ _ _ h => h) (Or.inl ⟨by rfl, ?_⟩) ?_ ?_
                  rotate_left
                  ·intro w'
                   go_simp
                   with_reducible rfl
                  rotate_left
                  ·simp only [Act.put, List.setIfInBounds_toArray, List.set_cons_zero, List.set_cons_succ, i64_w, i32_w]
                   rfl
                  refine take_ (i := 9) (N := some 50) (v := ?_) (a' := ?_) #[true, true, true, true, true, true, true, true, true, true, false, false, false, false, false, false] rfl rfl (take_ofW HT_.out HW_.out (by kernel_rfl)) (fun _ _ _ h => h) (Or.inl ⟨by rfl, ?_⟩) hHeld ?_ ?_
                  rotate_left
                  ·rintro w' ⟨s0, s1, s2, s3, s4, s5⟩
                   go_simp
                   with_reducible rfl
                  rotate_left
                  ·simp only [Act.put, List.setIfInBounds_toArray, List.set_cons_zero, List.set_cons_succ, i64_w, i32_w]
                   rfl
                  refine take_ (i := 10) (N := some 51) (v := ?_) (a' := ?_) #[true, true, true, true, true, true, true, true, true, true, true, false, false, false, false, false] rfl rfl (take_ofW HT_.out HW_.out (by kernel_rfl)) (fun _ _ _ h => h) (Or.inl ⟨by rfl, ?_⟩) hHeld ?_ ?_
                  rotate_left
                  ·rintro w' ⟨s0, s1, s2, s3, s4, s5⟩
                   go_simp
                   with_reducible rfl
                  rotate_left
                  ·simp only [Act.put, List.setIfInBounds_toArray, List.set_cons_zero, List.set_cons_succ, i64_w, i32_w]
                   rfl
                  refine take_ (i := 11) (N := some 52) (v := ?_) (a' := ?_) #[true, true, true, true, true, true, true, true, true, true, true, true, false, false, false, false] rfl rfl (take_ofW HT_.out HW_.out (by kernel_rfl)) (fun _ _ _ h => h) (Or.inl ⟨by rfl, ?_⟩) hHeld ?_ ?_
                  rotate_left
                  ·rintro w' ⟨s0, s1, s2, s3, s4, s5⟩
                   go_simp
                   with_reducible rfl
                  rotate_left
                  ·simp only [Act.put, List.setIfInBounds_toArray, List.set_cons_zero, List.set_cons_succ, i64_w, i32_w]
                   rfl
                  refine one_ (i := 12) (N := some 53) #[true, true, true, true, true, true, true, true, true, true, true, true, true, false, false, false] rfl rfl (one_of HT_.out (by kernel_rfl)) (by decide) (fun K hK => ?_)
                  refine goes_ Tryd.func46 (by kernel_rfl) rfl #[.agg #[.bool x746000_3, .slice Ao31 x746001_3.length co31], .agg #[.bool ((rd_T39 l1 x36_3).f0), .slice A746_1 ((rd_T39 l1 x36_3).f1).length c746_1]] (by rfl) rfl rfl (by (try simp only [List.map_toArray, List.map_cons, List.map_nil]); first | done | rfl | (simp only [List.length_drop, List.length_take]; rfl)) ?_
                  with_reducible refine (integer_Int_Mul.calls k3 x746000_3 _ _ x746001_3 ((rd_T39 l1 x36_3).f0) _ _ ((rd_T39 l1 x36_3).f1) t749 t750 _ ?side1 ?side2 ?side3 ?side4 A22.out).mono ?_
                  (case side1 => repeat (first | exact (Kd.V_reads' HO_746001.out).2.2 | (with_reducible refine Kd.C_alloc ?_ _) | (with_reducible refine Kd.C_drewN ?_ _) | (with_reducible refine Kd.C_drew ?_)))
                  (case side2 => exact (Kd.V_reads' HO_746001.out).2.1)
                  (case side3 => repeat (first | exact (Kd.C_below HR746_1.out HB.out) | (with_reducible refine Kd.C_alloc ?_ _) | (with_reducible refine Kd.C_drewN ?_ _) | (with_reducible refine Kd.C_drew ?_)))
                  (case side4 => exact HC746_1.out)
                  rintro e w32 ⟨v751, rfl, ho0, hb⟩
                  have HS4_ := (hb.cell (World.block_lt_of_cell? _ _ (hHeld.2.2.2.2.1))).trans (hHeld.2.2.2.2.1)
                  have HS5_ := (hb.cell (World.block_lt_of_cell? _ _ (hHeld.2.2.2.2.2))).trans (hHeld.2.2.2.2.2)
                  refine ⟨_, rfl, ?_⟩
                  have n0_ := Aside0.mk (Kd.N_below (lN HO_6) hb)
                  have n1_ := Aside0.mk (Kd.V_below (lV HO_27) hb)
                  have n2_ := Aside0.mk (Kd.V_below (lV HO_746001) hb)
                  have n3_ := Aside0.mk (Kd.V_below (lV HL748_1) hb)
                  have n4_ := Aside0.mk (Kd.V_lower (Kd.V_mono (ok' := fun k_ => (P0_ k_ ∨ w.heap.size ≤ k_) ∧ some k_ ≠ (.slice (some ad748) x6_3.length co30 : Value).ownBlock ∧ k_ ≠ gb745 ∧ k_ ≠ gb747) ho0 (fun k_ hk_ => ⟨(.inr (Nat.le_trans (below_size (by repeat (first | (with_reducible first | exact HB.out | apply below_alloc | apply pw_below_drewN | apply below_drew1 | refine below_set ?_ GE745.out | refine below_set ?_ GE747.out) | exact HB.out))) hk_)), (Kd.fresh' (Kd.N_lt (lN HO_6)) k_ hk_), (Kd.freshB (g := gb745) (o := .cells #[.bool x746000_3, .slice Ao31 x746001_3.length co31] 39 (0, 0)) (lK BK745) k_ hk_), (Kd.freshB (g := gb747) (o := .cells #[.bool ((rd_T39 l1 x36_3).f0), .slice A746_1 ((rd_T39 l1 x36_3).f1).length c746_1] 39 (0, 0)) (lK BK747) k_ hk_)⟩)) (below_size (by repeat (first | (with_reducible first | exact HB.out | apply below_alloc | apply pw_below_drewN | apply below_drew1 | refine below_set ?_ GE745.out | refine below_set ?_ GE747.out) | exact HB.out))))
                  have n5_ := Aside0.mk (blk_below (g := gb745) (o := .cells #[.bool x746000_3, .slice Ao31 x746001_3.length co31] 39 (0, 0)) (lK BK745) hb)
                  have n6_ := Aside0.mk (blk_below (g := gb747) (o := .cells #[.bool ((rd_T39 l1 x36_3).f0), .slice A746_1 ((rd_T39 l1 x36_3).f1).length c746_1] 39 (0, 0)) (lK BK747) hb)
                  have n7_ := Aside0.mk (Kd.C_below (by repeat (first | (with_reducible exact HR748_1.out) | (with_reducible refine Kd.C_alloc ?_ _) | (with_reducible refine Kd.C_drewN ?_ _) | (with_reducible refine Kd.C_drew ?_) | exact HR748_1.out)) hb)
                  have n8_ := Aside0.mk (below_step (by repeat (first | (with_reducible first | exact HB.out | apply below_alloc | apply pw_below_drewN | apply below_drew1 | refine below_set ?_ GE745.out | refine below_set ?_ GE747.out) | exact HB.out)) hb)
                  clear HO_6
                  clear HO_27
                  clear HO_746001
                  clear HL748_1
                  clear BK745
                  clear BK747
                  clear HR748_1
                  clear HB
                  have HO_6 := n0_
                  have HO_27 := n1_
                  have HO_746001 := n2_
                  have HL748_1 := n3_
                  have HO752 := n4_
                  have BK745 := n5_
                  have BK747 := n6_
                  have HR748_1 := n7_
                  have HB := n8_
                  clear n0_ n1_ n2_ n3_ n4_ n5_ n6_ n7_ n8_
                  (try clear hb)
                  (try clear hb2)
                  (try clear hk)
                  (try clear hi)
                  (try clear ho0)
                  obtain ⟨Ao33, co33, eo33⟩ := Kd.V_slice HO752.out
                  (first | subst eo33 | (injection eo33 with f1_ f2_ f3_; have f4_ := f1_.symm; have f5_ := f3_.symm; clear f1_ f2_ f3_; subst f4_; subst f5_))
                  refine hK.out _ _ ⟨(blk_cell BK745.out 0).trans rfl, (blk_cell BK745.out 1).trans rfl, (blk_cell BK747.out 0).trans rfl, (blk_cell BK747.out 1).trans rfl, HS4_, HS5_⟩ (fun hHeld => ?_)
                  clear hK K
                  refine norm_ (a' := ?_) ?_ ?_
                  rotate_left
                  ·show Act.put _ (some 53) _ = _
                   simp only [Act.put, List.setIfInBounds_toArray, List.set_cons_zero, List.set_cons_succ, i64_w, i32_w]
                   rfl
                  refine one_ (i := 13) (N := some 54) #[true, true, true, true, true, true, true, true, true, true, true, true, true, true, false, false] rfl rfl (one_of HT_.out (by kernel_rfl)) (by decide) (fun K hK => ?_)
                  refine goes_ Tryd.func36 (by kernel_rfl) rfl #[.agg #[.bool ((rd_T39 x6_3 (ji19)).f0), .slice A748_1 ((rd_T39 x6_3 (ji19)).f1).length c748_1], .agg #[.bool t749, .slice Ao33 t750.length co33]] (by rfl) rfl rfl (by (try simp only [List.map_toArray, List.map_cons, List.map_nil]); first | done | (simp only [hji19]; rfl) | rfl | (simp only [List.length_drop, List.length_take]; rfl)) ?_
                  with_reducible refine (integer_Int_Add.calls k3 ((rd_T39 x6_3 (ji19)).f0) _ _ ((rd_T39 x6_3 (ji19)).f1) t749 _ _ t750 t753 t754 _ ?side1 ?side2 ?side3 ?side4 A23.out).mono ?_
                  (case side1 => repeat (first | exact (by repeat (first | (with_reducible exact HR748_1.out) | (with_reducible refine Kd.C_alloc ?_ _) | (with_reducible refine Kd.C_drewN ?_ _) | (with_reducible refine Kd.C_drew ?_) | exact HR748_1.out)) | (with_reducible refine Kd.C_alloc ?_ _) | (with_reducible refine Kd.C_drewN ?_ _) | (with_reducible refine Kd.C_drew ?_)))
                  (case side2 => exact HC748_1.out)
                  (case side3 => repeat (first | exact (Kd.V_reads' HO752.out).2.2 | (with_reducible refine Kd.C_alloc ?_ _) | (with_reducible refine Kd.C_drewN ?_ _) | (with_reducible refine Kd.C_drew ?_)))
                  (case side4 => exact (Kd.V_reads' HO752.out).2.1)
                  rintro e w34 ⟨v755, rfl, ho0, hb⟩
                  have HS4_ := (hb.cell (World.block_lt_of_cell? _ _ (hHeld.2.2.2.2.1))).trans (hHeld.2.2.2.2.1)
                  have HS5_ := (hb.cell (World.block_lt_of_cell? _ _ (hHeld.2.2.2.2.2))).trans (hHeld.2.2.2.2.2)
                  refine ⟨_, rfl, ?_⟩
                  have n0_ := Aside0.mk (Kd.N_below (lN HO_6) hb)
                  have n1_ := Aside0.mk (Kd.V_below (lV HO_27) hb)
                  have n2_ := Aside0.mk (Kd.V_below (lV HO_746001) hb)
                  have n3_ := Aside0.mk (Kd.V_below (lV HL748_1) hb)
                  have n4_ := Aside0.mk (Kd.V_below (lV HO752) hb)
                  have n5_ := Aside0.mk (Kd.V_lower (Kd.V_mono (ok' := fun k_ => (P0_ k_ ∨ w.heap.size ≤ k_) ∧ some k_ ≠ (.slice (some ad748) x6_3.length co30 : Value).ownBlock ∧ k_ ≠ gb745 ∧ k_ ≠ gb747) ho0 (fun k_ hk_ => ⟨(.inr (Nat.le_trans (below_size (by repeat (first | (with_reducible first | exact HB.out | apply below_alloc | apply pw_below_drewN | apply below_drew1 | refine below_set ?_ GE745.out | refine below_set ?_ GE747.out) | exact HB.out))) hk_)), (Kd.fresh' (Kd.N_lt (lN HO_6)) k_ hk_), (Kd.freshB (g := gb745) (o := .cells #[.bool x746000_3, .slice Ao31 x746001_3.length co31] 39 (0, 0)) (lK BK745) k_ hk_), (Kd.freshB (g := gb747) (o := .cells #[.bool ((rd_T39 l1 x36_3).f0), .slice A746_1 ((rd_T39 l1 x36_3).f1).length c746_1] 39 (0, 0)) (lK BK747) k_ hk_)⟩)) (below_size (by repeat (first | (with_reducible first | exact HB.out | apply below_alloc | apply pw_below_drewN | apply below_drew1 | refine below_set ?_ GE745.out | refine below_set ?_ GE747.out) | exact HB.out))))
                  have n6_ := Aside0.mk (blk_below (g := gb745) (o := .cells #[.bool x746000_3, .slice Ao31 x746001_3.length co31] 39 (0, 0)) (lK BK745) hb)
                  have n7_ := Aside0.mk (blk_below (g := gb747) (o := .cells #[.bool ((rd_T39 l1 x36_3).f0), .slice A746_1 ((rd_T39 l1 x36_3).f1).length c746_1] 39 (0, 0)) (lK BK747) hb)
                  have n8_ := Aside0.mk (Kd.C_below (by repeat (first | (with_reducible exact HR748_1.out) | (with_reducible refine Kd.C_alloc ?_ _) | (with_reducible refine Kd.C_drewN ?_ _) | (with_reducible refine Kd.C_drew ?_) | exact HR748_1.out)) hb)
                  have n9_ := Aside0.mk (below_step (by repeat (first | (with_reducible first | exact HB.out | apply below_alloc | apply pw_below_drewN | apply below_drew1 | refine below_set ?_ GE745.out | refine below_set ?_ GE747.out) | exact HB.out)) hb)
                  clear HO_6
                  clear HO_27
                  clear HO_746001
                  clear HL748_1
                  clear HO752
                  clear BK745
                  clear BK747
                  clear HR748_1
                  clear HB
                  have HO_6 := n0_
                  have HO_27 := n1_
                  have HO_746001 := n2_
                  have HL748_1 := n3_
                  have HO752 := n4_
                  have HO756 := n5_
                  have BK745 := n6_
                  have BK747 := n7_
                  have HR748_1 := n8_
                  have HB := n9_
                  clear n0_ n1_ n2_ n3_ n4_ n5_ n6_ n7_ n8_ n9_
                  (try clear hb)
                  (try clear hb2)
                  (try clear hk)
                  (try clear hi)
                  (try clear ho0)
                  have p24 : 0 ≤ ((ji19) : Int) := of_decide_eq_true (by first | (with_reducible assumption) | assumption)
                  have q24 : ((ji19) : Int) < ((x6_3.length : Int) : Int) := of_decide_eq_true (by first | (with_reducible assumption) | assumption)
                  obtain ⟨go24, co24, eo24, gb24, gl24, cl24, HG24⟩ := Kd.N_form HO_6.out (by omega)
                  (first | cases eo24 | (injection eo24 with ea_ en_ ec_; (first | subst ea_ | (injection ea_ with ea_; subst ea_)); subst ec_; clear en_))
                  have GB24 := Aside0.mk gb24
                  have GG24 := Aside0.mk HG24
                  clear gb24 gl24 HG24
                  (first | simp only [add_plain] at hx748_0 | skip)
                  (first | simp only [add_plain] at hx748_1 | skip)
                  obtain ⟨ce24, hcl24, hM24, hcc24, hfr24⟩ := Kd.N_elem HO_6.out z39 ((ji19) : Int) p24 q24
                  obtain ⟨ua24_1, uc24_1, rfl, ul24_1, ge24_1⟩ := k39_openF hM24
                  have hx24_0 : World.cell? _ ⟨go24, ((ji19) : Int).toNat * 2, none⟩ = some (.bool ((rd_T39 x6_3 (ji19)).f0)) := hcc24 0 _ rfl
                  have hx24_1 : World.cell? _ ⟨go24, ((ji19) : Int).toNat * 2 + 1, none⟩ = some (.slice ua24_1 ((rd_T39 x6_3 (ji19)).f1).length uc24_1) := hcc24 1 _ rfl
                  have hf24_0 : World.frozen? _ ⟨go24, ((ji19) : Int).toNat * 2, none⟩ = false := hfr24 0
                  have hf24_1 : World.frozen? _ ⟨go24, ((ji19) : Int).toNat * 2 + 1, none⟩ = false := hfr24 1
                  clear hcl24 hcc24 hfr24 hM24
                  replace p24 := eq_true p24
                  replace q24 := eq_true q24
                  obtain ⟨Ao36, co36, eo36⟩ := Kd.V_slice HO756.out
                  (first | subst eo36 | (injection eo36 with f1_ f2_ f3_; have f4_ := f1_.symm; have f5_ := f3_.symm; clear f1_ f2_ f3_; subst f4_; subst f5_))
                  have HX35 := Aside0.mk (show Kd.N k39 39 _ w.heap.size (fun k_ => (P0_ k_ ∨ w.heap.size ≤ k_) ∧ k_ ≠ gb745 ∧ k_ ≠ gb747) (.slice (some ⟨go24, 0, none⟩) x6_3.length co30) x6_3 from (Kd.N_mono (HO_6.out) (fun k_ hk => ⟨hk.1, ⟨hk.2.1, hk.2.2⟩⟩)))
                  obtain ⟨ce35, hcl35, hM35, hcc35, hfr35⟩ := Kd.N_elem HX35.out z39 ((ji19) : Int) (of_decide_eq_true (by first | (with_reducible assumption) | assumption)) (by have h_ : ((ji19) : Int) < ((x6_3.length : Int) : Int) := of_decide_eq_true (by first | (with_reducible assumption) | assumption); first | exact h_ | (have e_ := (Kd.N_reads' HO_6.out).1; omega) | simpa using h_)
                  obtain ⟨ua35_1, uc35_1, rfl, ul35_1, ge35_1⟩ := k39_openF hM35
                  have HP35 := (Kd.N_seg HX35.out ((ji19) : Int) (of_decide_eq_true (by first | (with_reducible assumption) | assumption)) (by have h_ : ((ji19) : Int) < ((x6_3.length : Int) : Int) := of_decide_eq_true (by first | (with_reducible assumption) | assumption); first | exact h_ | (have e_ := (Kd.N_reads' HO_6.out).1; omega) | simpa using h_) (seg := [.bool t753, .slice Ao36 t754.length co36]) (j := 0) hcl35 hcc35 (show 2 ≤ 2 from by decide) (x' := (⟨t753, t754⟩ : S39)) (k39_mkF _ _ (⟨t753, t754⟩ : S39) (Kd.V_reads' (Kd.V_mono (ok' := (fun k_ => ((fun k_ => (P0_ k_ ∨ w.heap.size ≤ k_) ∧ k_ ≠ gb745 ∧ k_ ≠ gb747)) k_ ∧ k_ ≠ go24)) (HO756.out) (fun k_ hk => ⟨⟨hk.1, ⟨hk.2.2.1, hk.2.2.2⟩⟩, fun e_ => (hk.2.1) (by rw [e_]; rfl)⟩))).2.1 (Kd.V_F (Kd.V_mono (ok' := (fun k_ => ((fun k_ => (P0_ k_ ∨ w.heap.size ≤ k_) ∧ k_ ≠ gb745 ∧ k_ ≠ gb747)) k_ ∧ k_ ≠ go24)) (HO756.out) (fun k_ hk => ⟨⟨hk.1, ⟨hk.2.2.1, hk.2.2.2⟩⟩, fun e_ => (hk.2.1) (by rw [e_]; rfl)⟩)))) (fun _ hk => hk)).1
                  rw [← Ny757.out] at HP35
                  have HQ35 := Aside0.mk HP35
                  clear hcl35 hcc35 hfr35 hM35 HP35
                  refine hK.out _ _ ⟨(blk_cell BK745.out 0).trans rfl, (blk_cell BK745.out 1).trans rfl, (blk_cell BK747.out 0).trans rfl, (blk_cell BK747.out 1).trans rfl, HS4_, HS5_⟩ (fun hHeld => ?_)
                  clear hK K
                  refine norm_ (a' := ?_) ?_ ?_
                  rotate_left
                  ·show Act.put _ (some 54) _ = _
                   simp only [Act.put, List.setIfInBounds_toArray, List.set_cons_zero, List.set_cons_succ, i64_w, i32_w]
                   rfl
                  refine pure_ (i := 14) (N := some 55) (v := ?_) (a' := ?_) #[true, true, true, true, true, true, true, true, true, true, true, true, true, true, true, false] rfl rfl (any_of HT_.out (by kernel_rfl)) (fun _ _ _ h => h) (Or.inl ⟨by rfl, ?_⟩) ?_ ?_
                  rotate_left
                  ·intro w'
                   go_simp
                   with_reducible rfl
                  rotate_left
                  ·simp only [Act.put, List.setIfInBounds_toArray, List.set_cons_zero, List.set_cons_succ, i64_w, i32_w]
                   rfl
                  refine last_ (i := 15) (N := none) #[true, true, true, true, true, true, true, true, true, true, true, true, true, true, true, true] rfl rfl (one_of HT_.out (by kernel_rfl)) (by decide) (fun K hK => ?_)
                  refine skip_ (w1 := ?_) (by rfl) rfl ?_ ?_
                  rotate_left
                  ·go_simp
                   rfl
                  refine hK.out _ _ ?_
                  clear hK K
                  refine done_ (done_of HT_.out (by kernel_rfl)) ?_
                  try go_wp2
                  go_roundg k3
                  case measure => have := HJ2.out; have := HK2.out; have := HK3.out; omega
                  case rel => exact ⟨(y757), (wrap64 (x7_3 + 1)), (wrap64 (x36_3 + 1)), (x746000_3), (x746001_3), (.slice Ao31 x746001_3.length co31), (by first | rfl | (simp; done) | (simp [*]; done)), (by first | rfl | (simp; done) | (simp [*]; done)), H', ⟨by have := HJ2.out; have := HK2.out; have := HK3.out; omega⟩, ⟨by (with_reducible repeat (first | apply Kd.N_alloc | apply Kd.N_drewN | apply Kd.N_drew)); exact Kd.N_mono HQ35.out (fun _ hk => ⟨hk.1, hk.2.1⟩)⟩, ⟨by (with_reducible repeat (first | apply Kd.V_alloc | apply Kd.V_drewN | apply Kd.V_drew)); exact Kd.V_mono (Kd.V_far (p := ⟨go24, ((ji19) : Int).toNat * 2 + 1, none⟩) (Kd.V_far (p := ⟨go24, ((ji19) : Int).toNat * 2, none⟩) (Kd.V_mono HO_27.out (fun k_ hk => (⟨hk, fun e_ => hk.2.1 (by rw [e_]; rfl)⟩ : _ ∧ k_ ≠ go24))) (fun _ hk => hk.2) (.bool t753)) (fun _ hk => hk.2) (.slice Ao36 t754.length co36)) (fun _ hk => ⟨hk.1.1, ⟨hk.1.2.1, hk.1.2.2.1⟩⟩)⟩, ⟨by (with_reducible repeat (first | apply Kd.V_alloc | apply Kd.V_drewN | apply Kd.V_drew)); exact Kd.V_mono (Kd.V_far (p := ⟨go24, ((ji19) : Int).toNat * 2 + 1, none⟩) (Kd.V_far (p := ⟨go24, ((ji19) : Int).toNat * 2, none⟩) (Kd.V_mono HO_746001.out (fun k_ hk => (⟨hk, fun e_ => hk.2.1 (by rw [e_]; rfl)⟩ : _ ∧ k_ ≠ go24))) (fun _ hk => hk.2) (.bool t753)) (fun _ hk => hk.2) (.slice Ao36 t754.length co36)) (fun _ hk => ⟨hk.1.1, ⟨hk.1.2.1, hk.1.2.2.1⟩⟩)⟩, ⟨by (with_reducible repeat (first | refine blk_drewN ?_ _ | refine blk_drew ?_ | refine blk_alloc ?_ _)); refine blk_far ?_ (by have h_ := Kd.N_away HO_6.out (fun _ hk => hk.2.1); intro e_; exact h_ (by rw [e_]; rfl)) _; (with_reducible repeat (first | refine blk_drewN ?_ _ | refine blk_drew ?_ | refine blk_alloc ?_ _)); refine blk_far ?_ (by have h_ := Kd.N_away HO_6.out (fun _ hk => hk.2.1); intro e_; exact h_ (by rw [e_]; rfl)) _; (with_reducible repeat (first | refine blk_drewN ?_ _ | refine blk_drew ?_ | refine blk_alloc ?_ _)); exact BK745.out⟩, ⟨by repeat (first | (with_reducible first | exact HB.out | apply below_alloc | apply pw_below_drewN | apply below_drew1 | refine below_set ?_ GB24.out | refine below_set ?_ GB24.out | refine below_set ?_ GE745.out | refine below_set ?_ GE747.out) | exact HB.out)⟩⟩
                 ·rw [if_neg c21] at H
                  exact absurd H (by simp)
                ·rw [if_neg c20] at H
                 exact absurd H (by simp)
               ·rw [if_neg c18] at H
                exact absurd H (by simp)
              ·rw [if_neg c17] at H
               exact absurd H (by simp)
             ·rw [if_neg c16] at H
              have c16b0 : decide (x36_3 < (l1.length : Int)) = false := decide_eq_false c16
              clear c16
              have H' := Aside0.mk H
              clear H
              go_wp2
              go_roundg k3
              case measure => have := HJ2.out; have := HK2.out; have := HK3.out; omega
              case rel => exact ⟨(x6_3), (x7_3), (wrap64 (x29_2 + 1)), (by first | rfl | (simp; done) | (simp [*]; done)), (by first | rfl | (simp; done) | (simp [*]; done)), H', ⟨by have := HJ2.out; have := HK2.out; have := HK3.out; omega⟩, ⟨by (with_reducible repeat (first | apply Kd.N_alloc | apply Kd.N_drewN | apply Kd.N_drew)); exact Kd.N_mono HO_6.out (fun _ hk => hk.1)⟩, ⟨by (with_reducible repeat (first | apply Kd.V_alloc | apply Kd.V_drewN | apply Kd.V_drew)); exact Kd.V_mono HO_27.out (fun _ hk => ⟨hk.1, hk.2.1⟩)⟩, ⟨by repeat (first | (with_reducible first | exact HB.out | apply below_alloc | apply pw_below_drewN | apply below_drew1 | refine below_set ?_ GE745.out) | exact HB.out)⟩⟩
          ·rw [if_neg c13] at H
           exact absurd H (by simp)
         ·rw [if_neg c12] at H
          exact absurd H (by simp)
        ·rw [if_neg c11] at H
         have c11b0 : decide (x29_2 < (l0.length : Int)) = false := decide_eq_false c11
         clear c11
         simp only [Option.some.injEq, Prod.mk.injEq] at H
         obtain ⟨rfl, rfl⟩ := H
         go_wp2
         go_ret2
         exact ⟨_, by first | rfl | (simp [errW_none, errW_some] <;> rfl) | (simp only [← hji6]; first | rfl | (simp [errW_none, errW_some] <;> rfl)) | (simp [*, errW_none, errW_some] <;> rfl), by (with_reducible repeat (first | apply Kd.N_alloc | apply Kd.N_drewN | apply Kd.N_drew)); exact HO_6.out, by repeat (first | (with_reducible first | exact HB.out | apply below_alloc | apply pw_below_drewN | apply below_drew1) | exact HB.out)⟩
     ·rw [if_neg c8] at H
      exact absurd H (by simp)
    ·rw [if_neg c7] at H
     exact absurd H (by simp)

end Go.Proofs.YtakmkhokbcjapaaDoor.XA
end

section
namespace Go.Proofs.YtakmkhokbcjapaaDoor.XA
open Go.Proofs.YtakmkhokbcjapaaDoor.Lift Go.RowKit Go.Proofs.YtakmkhokbcjapaaDoorW.PrintWords Go.Proofs.YtakmkhokbcjapaaDoorW.PrintLast Go.Proofs.YtakmkhokbcjapaaDoorW.PrintMore
attribute [local go_sem] max2_int min2_int max_two min_two max_three min_three max_four min_four   -- for this text's walks alone
set_option linter.unusedVariables false
set_option linter.unusedSimpArgs false

/-! ### poly_placed: function 47 -/
def poly_placed.l0 : Nat → List (S39) → List (S39) → List (S39) → Int → Int → Option ((List (S39)))
 | 0, _, _, _, _, _ => none
 | k + 1, x0, x1, x7, x15, x16 => if x16 < x15 then (if x16 < (x0.length : Int) then (if 0 ≤ x16 then (if x16 < (x1.length : Int) then ((integer_Int_Add.f k ((rd_T39 x0 x16).f0) ((rd_T39 x0 x16).f1) ((rd_T39 x1 x16).f0) ((rd_T39 x1 x16).f1)).bind fun bt762 => (if x7.length < 4398046511104 then (poly_placed.l0 k x0 x1 (x7 ++ [(⟨bt762.1, bt762.2⟩ : S39)]) x15 (wrap64 (x16 + 1))) else (none))) else ((integer_Int_Add.f k ((rd_T39 x0 x16).f0) ((rd_T39 x0 x16).f1) false ([] : List Int)).bind fun bt769 => (if x7.length < 4398046511104 then (poly_placed.l0 k x0 x1 (x7 ++ [(⟨bt769.1, bt769.2⟩ : S39)]) x15 (wrap64 (x16 + 1))) else (none)))) else (none)) else (if x16 < (x1.length : Int) then (if 0 ≤ x16 then ((integer_Int_Add.f k false ([] : List Int) ((rd_T39 x1 x16).f0) ((rd_T39 x1 x16).f1)).bind fun bt777 => (if x7.length < 4398046511104 then (poly_placed.l0 k x0 x1 (x7 ++ [(⟨bt777.1, bt777.2⟩ : S39)]) x15 (wrap64 (x16 + 1))) else (none))) else (none)) else ((integer_Int_Add.f k false ([] : List Int) false ([] : List Int)).bind fun bt784 => (if x7.length < 4398046511104 then (poly_placed.l0 k x0 x1 (x7 ++ [(⟨bt784.1, bt784.2⟩ : S39)]) x15 (wrap64 (x16 + 1))) else (none))))) else (some x7)
def poly_placed.f (k : Nat) (l0 : List (S39)) (l1 : List (S39)) : Option ((List (S39))) := poly_placed.l0 k l0 l1 ([] : List (S39)) (mx (l0.length : Int) (l1.length : Int)) 0
set_option maxHeartbeats 8000000 in
set_option maxRecDepth 100000 in
theorem poly_placed.calls (k : Nat) (A0 : Option Addr) (c0 : Nat) (l0 : List (S39)) (A1 : Option Addr) (c1 : Nat) (l1 : List (S39)) (r : List (S39)) (w : World) (hr0 : Kd.C k39 w A0 l0.length l0) (hc0 : l0.length ≤ c0) (hr1 : Kd.C k39 w A1 l1.length l1) (hc1 : l1.length ≤ c1) (h : poly_placed.f k l0 l1 = some r) :
  Calls Tryd.prog 47 #[.slice A0 l0.length c0, .slice A1 l1.length c1, .func (.func 36) #[] #[]] w fun e w' => ∃ v0_ : Value, e = .returned (v0_) ∧ Kd.N k39 39 w' w.heap.size (fun k_ => (w.heap.size ≤ k_)) v0_ r ∧ Below w.heap.size w w' := by
 have hu39 := Tryd.underlying39
 have HR0 := Aside0.mk hr0
 have HC0 := Aside0.mk hc0
 clear hr0 hc0
 have HR1 := Aside0.mk hr1
 have HC1 := Aside0.mk hc1
 clear hr1 hc1
 have HB := Aside0.mk (Below.refl w.heap.size w)
 have H : (poly_placed.l0 k l0 l1 ([] : List (S39)) (mx (l0.length : Int) (l1.length : Int)) 0) = some r := h
 clear h
 obtain ⟨ji3, hji3⟩ : ∃ j_ : Int, (mx (l0.length : Int) (l1.length : Int)) = j_ := ⟨_, rfl⟩
 replace H : (poly_placed.l0 k l0 l1 ([] : List (S39)) ji3 0) = some r := by first | (rw [hji3] at H; exact H) | (simp only [hji3] at H ⊢; exact H)
 (try (have hji3l : 0 ≤ ji3 := by (rw [← hji3]; unfold mx; (repeat' split) <;> omega)))
 (try (have hji3m : 0 ≤ ji3 := by omega))
 have hji3_ : (if (l0.length : Int) < (l1.length : Int) then (l1.length : Int) else (l0.length : Int)) = ji3 := hji3
 have hji3n_ : (if l0.length < l1.length then (l1.length : Int) else (l0.length : Int)) = ji3 := by rw [← hji3_]; simp only [Int.ofNat_lt]
 have H' := Aside0.mk H
 clear H
 go_enter Tryd.func47, Tryd.ntmps47
 go_wp2
 go_loopg [7, 16] k (fun kq v7 v16 w' => ∃ (x7_1 : List (S39)) (x16_1 : Int), v16 = .int .i64 x16_1 ∧ Aside0 (poly_placed.l0 kq l0 l1 x7_1 ji3 x16_1 = some r) ∧ Aside0 (kq ≤ k) ∧ Aside0 (Kd.N k39 39 w' w.heap.size (fun k_ => (w.heap.size ≤ k_)) v7 x7_1) ∧ Aside0 (Below w.heap.size w w'))
 case atStart => exact ⟨(([] : List (S39))), (0), (by first | rfl | (simp; done) | (simp [*]; done)), H', ⟨Nat.le_refl _⟩, ⟨by first | exact Kd.S_nil _ _ _ _ _ | exact Kd.N_nil _ _ _ _ _ | exact Kd.V_nil _ _ _ _ _ | exact Kd.Q_nil _ _ _ _ _ | exact Kd.R_nil _ _ _ _ _⟩, ⟨by repeat (first | (with_reducible first | exact HB.out | apply below_alloc | apply pw_below_drewN | apply below_drew1) | exact HB.out)⟩⟩
 case round =>
  clear H'
  try clear c1
  obtain ⟨x7_1, x16_1, rfl, HA, HK1, HO_7, HB⟩ := hrel
  cases gk with
  | zero => exact absurd HA.out (by simp [poly_placed.l0])
  | succ k1 =>
   have H := HA.out
   clear HA
   simp only [poly_placed.l0] at H
   by_cases c4 : x16_1 < ji3
   ·rw [if_pos c4] at H
    have c4b0 : decide (x16_1 < ji3) = true := decide_eq_true c4
    clear c4
    by_cases c5 : x16_1 < (l0.length : Int)
    ·rw [if_pos c5] at H
     have c5b0 : decide (x16_1 < (l0.length : Int)) = true := decide_eq_true c5
     clear c5
     by_cases c6 : 0 ≤ x16_1
     ·rw [if_pos c6] at H
      have c6b0 : decide (0 ≤ x16_1) = true := decide_eq_true c6
      clear c6
      by_cases c7 : x16_1 < (l1.length : Int)
      ·rw [if_pos c7] at H
       have c7b0 : decide (x16_1 < (l1.length : Int)) = true := decide_eq_true c7
       clear c7
       replace H := Option.bind_eq_some_iff.mp H
       obtain ⟨⟨t762, t763⟩, A80, H⟩ := H
       replace H : (if x7_1.length < 4398046511104 then (poly_placed.l0 k1 l0 l1 (x7_1 ++ [(⟨t762, t763⟩ : S39)]) ji3 (wrap64 (x16_1 + 1))) else (none)) = some r := H
       have A8 := Aside0.mk A80
       clear A80
       by_cases c9 : x7_1.length < 4398046511104
       ·rw [if_pos c9] at H
        have LMc9 := Aside0.mk c9
        clear c9
        obtain ⟨y766, hy766⟩ : ∃ y_ : List (S39), y_ = (x7_1 ++ [(⟨t762, t763⟩ : S39)]) := ⟨_, rfl⟩
        replace H : (poly_placed.l0 k1 l0 l1 y766 ji3 (wrap64 (x16_1 + 1))) = some r := by first | (rw [hy766]; with_reducible exact H) | (have H2_ := (Option.bind_some _ _).symm.trans H; rw [hy766]; with_reducible exact H2_) | (have H2_ := (Option.bind_some _ _).symm.trans H; with_reducible exact H2_) | with_reducible exact H | (rw [hy766]; exact H) | exact H
        have Ny766 := Aside0.mk hy766
        clear hy766
        have H' := Aside0.mk H
        clear H
        go_wp2_with (first | ((with_reducible refine gate_dst (N := 9) rfl ?_); refine box_event ?hg (N := 9) ?hd (cs := #[.bool false, .slice none 0 0]) (t := 39) ?hr ?_; (case hd => rfl); (case hg => rfl); (case hr => first | (go_simp; done) | (go_simp; rfl)); intro gb758 hg w10 hbox hb; have n0_ := Aside0.mk (Kd.N_below (Kd.N_elderB (lN HO_7) gb758 (Nat.le_of_eq hg.symm)) hb); have n1_ := Aside0.mk (below_step (lB HB) hb); have n2_ := Aside0.mk (hbox); have n3_ := Aside0.mk ((by rw [hg]; exact (below_size (lB HB)) : w.heap.size ≤ gb758)); have n4_ := Aside0.mk ((by rw [hg]; exact (below_size (lB HB)) : w.heap.size ≤ gb758)); clear HO_7 HB; have HO_7 := n0_; have HB := n1_; have BK758 := n2_; have GW758 := n3_; have GE758 := n4_; clear n0_ n1_ n2_ n3_ n4_; clear hb hbox hg) | ((with_reducible refine gate_dst (N := 10) rfl ?_); refine box_event ?hg (N := 10) ?hd (cs := #[.bool false, .slice none 0 0]) (t := 39) ?hr ?_; (case hd => rfl); (case hg => rfl); (case hr => first | (go_simp; done) | (go_simp; rfl)); intro gb759 hg w11 hbox hb; have n0_ := Aside0.mk (Kd.N_below (Kd.N_elderB (lN HO_7) gb759 (Nat.le_of_eq hg.symm)) hb); have n1_ := Aside0.mk (blk_below (g := gb758) (o := .cells #[.bool false, .slice none 0 0] 39 (0, 0)) (lK BK758) hb); have n2_ := Aside0.mk (below_step (by repeat (first | (with_reducible first | exact HB.out | apply below_alloc | apply pw_below_drewN | apply below_drew1 | refine below_set ?_ GE758.out) | exact HB.out)) hb); have n3_ := Aside0.mk (hbox); have n4_ := Aside0.mk ((by rw [hg]; exact (below_size (by repeat (first | (with_reducible first | exact HB.out | apply below_alloc | apply pw_below_drewN | apply below_drew1 | refine below_set ?_ GE758.out) | exact HB.out))) : w.heap.size ≤ gb759)); have n5_ := Aside0.mk ((by rw [hg]; exact (below_size (by repeat (first | (with_reducible first | exact HB.out | apply below_alloc | apply pw_below_drewN | apply below_drew1 | refine below_set ?_ GE758.out) | exact HB.out))) : w.heap.size ≤ gb759)); have n6_ := Aside0.mk ((by rw [hg]; exact Nat.ne_of_lt (blk_lt (g := gb758) (o := .cells #[.bool false, .slice none 0 0] 39 (0, 0)) (lK BK758)) : gb758 ≠ gb759)); have n7_ := Aside0.mk ((by rw [hg]; exact Nat.ne_of_gt (blk_lt (g := gb758) (o := .cells #[.bool false, .slice none 0 0] 39 (0, 0)) (lK BK758)) : gb759 ≠ gb758)); clear HO_7; clear BK758; clear HB; have HO_7 := n0_; have BK758 := n1_; have HB := n2_; have BK759 := n3_; have GW759 := n4_; have GE759 := n5_; have NB758_759 := n6_; have NB759_758 := n7_; clear n0_ n1_ n2_ n3_ n4_ n5_ n6_ n7_; clear hb hbox hg; have p760 : 0 ≤ (x16_1 : Int) := of_decide_eq_true (by first | (with_reducible assumption) | assumption); have q760 : x16_1 < (l0.length : Int) := of_decide_eq_true (by first | (with_reducible assumption) | assumption); obtain ⟨ad760, A760_1, c760_1, e760, hx760_0, hx760_1, hl760_1, hi760_1⟩ := at_T39 HR0.out x16_1 p760 q760; cases e760; replace hx760_0 := (HB.out.cell (World.block_lt_of_cell? w _ hx760_0)).trans hx760_0; replace hx760_1 := (HB.out.cell (World.block_lt_of_cell? w _ hx760_1)).trans hx760_1; have HR760_1 := Aside0.mk hi760_1; have HC760_1 := Aside0.mk hl760_1; clear hi760_1 hl760_1; replace p760 := eq_true p760; replace q760 := eq_true q760; have hnb12 := NB758_759.out; have hnc12 := NB759_758.out; have hcz13_0 : w11.cell? ⟨gb758, 0, none⟩ = some (.bool false) := (blk_cell BK758.out 0).trans rfl; have hcz13_1 : w11.cell? ⟨gb758, 1, none⟩ = some (.slice none 0 0) := (blk_cell BK758.out 1).trans rfl; have hfz13_0 := blk_frozen BK758.out 0; have hfz13_1 := blk_frozen BK758.out 1; have p761 : 0 ≤ (x16_1 : Int) := of_decide_eq_true (by first | (with_reducible assumption) | assumption); have q761 : x16_1 < (l1.length : Int) := of_decide_eq_true (by first | (with_reducible assumption) | assumption); obtain ⟨ad761, A761_1, c761_1, e761, hx761_0, hx761_1, hl761_1, hi761_1⟩ := at_T39 HR1.out x16_1 p761 q761; cases e761; have hn761_0 : ad761.block ≠ gb758 := Nat.ne_of_lt (Nat.lt_of_lt_of_le (by have := World.block_lt_of_cell? _ _ hx761_0; first | rwa [add_block] at this | exact this) GW758.out); have hn761_1 : ad761.block ≠ gb758 := Nat.ne_of_lt (Nat.lt_of_lt_of_le (by have := World.block_lt_of_cell? _ _ hx761_0; first | rwa [add_block] at this | exact this) GW758.out); replace hx761_0 := (HB.out.cell (World.block_lt_of_cell? w _ hx761_0)).trans hx761_0; replace hx761_1 := (HB.out.cell (World.block_lt_of_cell? w _ hx761_1)).trans hx761_1; have HR761_1 := Aside0.mk hi761_1; have HC761_1 := Aside0.mk hl761_1; clear hi761_1 hl761_1; replace hx761_0 := (cell_far (p := ⟨gb758, 0, none⟩) (by first | (rw [add_block]; exact hn761_0) | (show (Addr.add _ _).block ≠ _; rw [add_block]; exact hn761_0) | exact hn761_0) (.bool ((rd_T39 l0 x16_1).f0))).trans hx761_0; replace hx761_1 := (cell_far (p := ⟨gb758, 0, none⟩) (by first | (rw [add_block]; exact hn761_0) | (show (Addr.add _ _).block ≠ _; rw [add_block]; exact hn761_0) | exact hn761_0) (.bool ((rd_T39 l0 x16_1).f0))).trans hx761_1; replace hx761_0 := (cell_far (p := ⟨gb758, 1, none⟩) (by first | (rw [add_block]; exact hn761_1) | (show (Addr.add _ _).block ≠ _; rw [add_block]; exact hn761_1) | exact hn761_1) (.slice A760_1 ((rd_T39 l0 x16_1).f1).length c760_1)).trans hx761_0; replace hx761_1 := (cell_far (p := ⟨gb758, 1, none⟩) (by first | (rw [add_block]; exact hn761_1) | (show (Addr.add _ _).block ≠ _; rw [add_block]; exact hn761_1) | exact hn761_1) (.slice A760_1 ((rd_T39 l0 x16_1).f1).length c760_1)).trans hx761_1; clear hn761_0; clear hn761_1; replace p761 := eq_true p761; replace q761 := eq_true q761; have hcz14_0 : w11.cell? ⟨gb759, 0, none⟩ = some (.bool false) := (blk_cell BK759.out 0).trans rfl; have hcz14_1 : w11.cell? ⟨gb759, 1, none⟩ = some (.slice none 0 0) := (blk_cell BK759.out 1).trans rfl; have hfz14_0 := blk_frozen BK759.out 0; have hfz14_1 := blk_frozen BK759.out 1) | ((with_reducible refine gate_callee_v rfl ?_); refine goesL_v (some 39) rfl rfl Tryd.func36 (by kernel_rfl) rfl #[.agg #[.bool ((rd_T39 l0 x16_1).f0), .slice A760_1 ((rd_T39 l0 x16_1).f1).length c760_1], .agg #[.bool ((rd_T39 l1 x16_1).f0), .slice A761_1 ((rd_T39 l1 x16_1).f1).length c761_1]] rfl rfl (by (try simp only [List.map_toArray, List.map_cons, List.map_nil]); first | done | rfl | (simp only [List.length_drop, List.length_take]; rfl)) ?_; (with_reducible refine (integer_Int_Add.calls k1 ((rd_T39 l0 x16_1).f0) _ _ ((rd_T39 l0 x16_1).f1) ((rd_T39 l1 x16_1).f0) _ _ ((rd_T39 l1 x16_1).f1) t762 t763 _ ?side1 ?side2 ?side3 ?side4 A8.out).mono ?_); (case side1 => exact Kd.C_below HR760_1.out (by repeat (first | (with_reducible first | exact HB.out | apply below_alloc | apply pw_below_drewN | apply below_drew1 | refine below_set ?_ GE758.out | refine below_set ?_ GE759.out) | exact HB.out))); (case side2 => exact HC760_1.out); (case side3 => exact Kd.C_below HR761_1.out (by repeat (first | (with_reducible first | exact HB.out | apply below_alloc | apply pw_below_drewN | apply below_drew1 | refine below_set ?_ GE758.out | refine below_set ?_ GE759.out) | exact HB.out))); (case side4 => exact HC761_1.out); rintro e w15 ⟨v764, rfl, ho0, hb⟩; refine ⟨_, rfl, ?_⟩; have n0_ := Aside0.mk (Kd.N_below (by (with_reducible repeat (first | apply Kd.N_alloc | apply Kd.N_drewN | apply Kd.N_drew)); exact (Kd.N_mono (Kd.N_mono (Kd.N_far (p := ⟨gb759, 1, none⟩) (Kd.N_far (p := ⟨gb759, 0, none⟩) (Kd.N_far (p := ⟨gb758, 1, none⟩) (Kd.N_far (p := ⟨gb758, 0, none⟩) (Kd.N_mono (Kd.N_mono HO_7.out (fun k_ hk => (⟨hk, hk.1.2⟩ : _ ∧ k_ ≠ gb758))) (fun k_ hk => (⟨hk, hk.1.2⟩ : _ ∧ k_ ≠ gb759))) (fun _ hk => hk.1.2) (.bool ((rd_T39 l0 x16_1).f0))) (fun _ hk => hk.1.2) (.slice A760_1 ((rd_T39 l0 x16_1).f1).length c760_1)) (fun _ hk => hk.2) (.bool ((rd_T39 l1 x16_1).f0))) (fun _ hk => hk.2) (.slice A761_1 ((rd_T39 l1 x16_1).f1).length c761_1)) (fun _ h_ => h_.1)) (fun _ h_ => h_.1))) hb); have n1_ := Aside0.mk (Kd.V_lower (Kd.V_mono (ok' := fun k_ => (w.heap.size ≤ k_) ∧ some k_ ≠ (u7 : Value).ownBlock ∧ k_ ≠ gb758 ∧ k_ ≠ gb759) ho0 (fun k_ hk_ => ⟨(Nat.le_trans (below_size (by repeat (first | (with_reducible first | exact HB.out | apply below_alloc | apply pw_below_drewN | apply below_drew1 | refine below_set ?_ GE758.out | refine below_set ?_ GE759.out) | exact HB.out))) hk_), (Kd.fresh' (Kd.N_lt (by (with_reducible repeat (first | apply Kd.N_alloc | apply Kd.N_drewN | apply Kd.N_drew)); exact (Kd.N_mono (Kd.N_mono (Kd.N_far (p := ⟨gb759, 1, none⟩) (Kd.N_far (p := ⟨gb759, 0, none⟩) (Kd.N_far (p := ⟨gb758, 1, none⟩) (Kd.N_far (p := ⟨gb758, 0, none⟩) (Kd.N_mono (Kd.N_mono HO_7.out (fun k_ hk => (⟨hk, hk.1.2⟩ : _ ∧ k_ ≠ gb758))) (fun k_ hk => (⟨hk, hk.1.2⟩ : _ ∧ k_ ≠ gb759))) (fun _ hk => hk.1.2) (.bool ((rd_T39 l0 x16_1).f0))) (fun _ hk => hk.1.2) (.slice A760_1 ((rd_T39 l0 x16_1).f1).length c760_1)) (fun _ hk => hk.2) (.bool ((rd_T39 l1 x16_1).f0))) (fun _ hk => hk.2) (.slice A761_1 ((rd_T39 l1 x16_1).f1).length c761_1)) (fun _ h_ => h_.1)) (fun _ h_ => h_.1)))) k_ hk_), (Kd.freshB (g := gb758) (o := .cells #[.bool ((rd_T39 l0 x16_1).f0), .slice A760_1 ((rd_T39 l0 x16_1).f1).length c760_1] 39 (0, 0)) (by (with_reducible repeat (first | refine blk_drewN ?_ _ | refine blk_drew ?_ | refine blk_alloc ?_ _)); refine blk_far ?_ NB758_759.out _; (with_reducible repeat (first | refine blk_drewN ?_ _ | refine blk_drew ?_ | refine blk_alloc ?_ _)); refine blk_far ?_ NB758_759.out _; (with_reducible repeat (first | refine blk_drewN ?_ _ | refine blk_drew ?_ | refine blk_alloc ?_ _)); refine blk_put (cs := #[.bool ((rd_T39 l0 x16_1).f0), .slice none 0 0]) ?_ 1 _ rfl; (with_reducible repeat (first | refine blk_drewN ?_ _ | refine blk_drew ?_ | refine blk_alloc ?_ _)); refine blk_put (cs := #[.bool false, .slice none 0 0]) ?_ 0 _ rfl; (with_reducible repeat (first | refine blk_drewN ?_ _ | refine blk_drew ?_ | refine blk_alloc ?_ _)); exact BK758.out) k_ hk_), (Kd.freshB (g := gb759) (o := .cells #[.bool ((rd_T39 l1 x16_1).f0), .slice A761_1 ((rd_T39 l1 x16_1).f1).length c761_1] 39 (0, 0)) (by (with_reducible repeat (first | refine blk_drewN ?_ _ | refine blk_drew ?_ | refine blk_alloc ?_ _)); refine blk_put (cs := #[.bool ((rd_T39 l1 x16_1).f0), .slice none 0 0]) ?_ 1 _ rfl; (with_reducible repeat (first | refine blk_drewN ?_ _ | refine blk_drew ?_ | refine blk_alloc ?_ _)); refine blk_put (cs := #[.bool false, .slice none 0 0]) ?_ 0 _ rfl; (with_reducible repeat (first | refine blk_drewN ?_ _ | refine blk_drew ?_ | refine blk_alloc ?_ _)); refine blk_far ?_ NB759_758.out _; (with_reducible repeat (first | refine blk_drewN ?_ _ | refine blk_drew ?_ | refine blk_alloc ?_ _)); refine blk_far ?_ NB759_758.out _; (with_reducible repeat (first | refine blk_drewN ?_ _ | refine blk_drew ?_ | refine blk_alloc ?_ _)); exact BK759.out) k_ hk_)⟩)) (below_size (by repeat (first | (with_reducible first | exact HB.out | apply below_alloc | apply pw_below_drewN | apply below_drew1 | refine below_set ?_ GE758.out | refine below_set ?_ GE759.out) | exact HB.out)))); have n2_ := Aside0.mk (blk_below (g := gb758) (o := .cells #[.bool ((rd_T39 l0 x16_1).f0), .slice A760_1 ((rd_T39 l0 x16_1).f1).length c760_1] 39 (0, 0)) (by (with_reducible repeat (first | refine blk_drewN ?_ _ | refine blk_drew ?_ | refine blk_alloc ?_ _)); refine blk_far ?_ NB758_759.out _; (with_reducible repeat (first | refine blk_drewN ?_ _ | refine blk_drew ?_ | refine blk_alloc ?_ _)); refine blk_far ?_ NB758_759.out _; (with_reducible repeat (first | refine blk_drewN ?_ _ | refine blk_drew ?_ | refine blk_alloc ?_ _)); refine blk_put (cs := #[.bool ((rd_T39 l0 x16_1).f0), .slice none 0 0]) ?_ 1 _ rfl; (with_reducible repeat (first | refine blk_drewN ?_ _ | refine blk_drew ?_ | refine blk_alloc ?_ _)); refine blk_put (cs := #[.bool false, .slice none 0 0]) ?_ 0 _ rfl; (with_reducible repeat (first | refine blk_drewN ?_ _ | refine blk_drew ?_ | refine blk_alloc ?_ _)); exact BK758.out) hb); have n3_ := Aside0.mk (blk_below (g := gb759) (o := .cells #[.bool ((rd_T39 l1 x16_1).f0), .slice A761_1 ((rd_T39 l1 x16_1).f1).length c761_1] 39 (0, 0)) (by (with_reducible repeat (first | refine blk_drewN ?_ _ | refine blk_drew ?_ | refine blk_alloc ?_ _)); refine blk_put (cs := #[.bool ((rd_T39 l1 x16_1).f0), .slice none 0 0]) ?_ 1 _ rfl; (with_reducible repeat (first | refine blk_drewN ?_ _ | refine blk_drew ?_ | refine blk_alloc ?_ _)); refine blk_put (cs := #[.bool false, .slice none 0 0]) ?_ 0 _ rfl; (with_reducible repeat (first | refine blk_drewN ?_ _ | refine blk_drew ?_ | refine blk_alloc ?_ _)); refine blk_far ?_ NB759_758.out _; (with_reducible repeat (first | refine blk_drewN ?_ _ | refine blk_drew ?_ | refine blk_alloc ?_ _)); refine blk_far ?_ NB759_758.out _; (with_reducible repeat (first | refine blk_drewN ?_ _ | refine blk_drew ?_ | refine blk_alloc ?_ _)); exact BK759.out) hb); have n4_ := Aside0.mk (below_step (by repeat (first | (with_reducible first | exact HB.out | apply below_alloc | apply pw_below_drewN | apply below_drew1 | refine below_set ?_ GE758.out | refine below_set ?_ GE759.out) | exact HB.out)) hb); clear HO_7; clear BK758; clear BK759; clear HB; have HO_7 := n0_; have HO765 := n1_; have BK758 := n2_; have BK759 := n3_; have HB := n4_; clear n0_ n1_ n2_ n3_ n4_; (try clear hb); (try clear hb2); (try clear hk); (try clear hi); (try clear ho0); obtain ⟨Ao17, co17, eo17⟩ := Kd.V_slice HO765.out; subst eo17) | ((with_reducible refine gate_builtin (b := .append) (xs := #[.tmp 35, .tmp 40]) rfl ?_); at_builtin; refine Kd.N_append k39 (w0 := w) w.heap.size rfl (.tmp 35) (.tmp 40) 24 39 (.agg #[(.bool false), (.slice none 0 0)]) 32 rfl Tryd.underlying24 info39 rfl (by decide) (by omega) u7 x7_1 (⟨t762, t763⟩ : S39) [.bool t762, .slice Ao17 t763.length co17] (fun k_ => (w.heap.size ≤ k_) ∧ k_ ≠ gb758 ∧ k_ ≠ gb759) (fun k_ => ((fun k_ => (w.heap.size ≤ k_) ∧ k_ ≠ gb758 ∧ k_ ≠ gb759)) k_ ∧ some k_ ≠ (u7 : Value).ownBlock) rfl rfl ?aP (fun _ hk => hk) ?aF ?aO ?aB ?aS ?aL ?_; (case aP => exact (k39_mkF _ _ (⟨t762, t763⟩ : S39) (Kd.V_reads' (Kd.V_mono (ok' := (fun k_ => ((fun k_ => (w.heap.size ≤ k_) ∧ k_ ≠ gb758 ∧ k_ ≠ gb759)) k_ ∧ some k_ ≠ (u7 : Value).ownBlock)) (HO765.out) (fun k_ hk => ⟨⟨hk.1, ⟨hk.2.2.1, hk.2.2.2⟩⟩, hk.2.1⟩))).2.1 (Kd.V_F (Kd.V_mono (ok' := (fun k_ => ((fun k_ => (w.heap.size ≤ k_) ∧ k_ ≠ gb758 ∧ k_ ≠ gb759)) k_ ∧ some k_ ≠ (u7 : Value).ownBlock)) (HO765.out) (fun k_ hk => ⟨⟨hk.1, ⟨hk.2.2.1, hk.2.2.2⟩⟩, hk.2.1⟩))))); (case aB => exact (by repeat (first | (with_reducible first | exact HB.out | apply below_alloc | apply pw_below_drewN | apply below_drew1 | refine below_set ?_ GE758.out | refine below_set ?_ GE759.out) | exact HB.out))); (case aF => exact (fun k_ hk => ⟨(Nat.le_trans (below_size (by repeat (first | (with_reducible first | exact HB.out | apply below_alloc | apply pw_below_drewN | apply below_drew1 | refine below_set ?_ GE758.out | refine below_set ?_ GE759.out) | exact HB.out))) hk), Kd.freshB (g := gb758) (o := .cells #[.bool ((rd_T39 l0 x16_1).f0), .slice A760_1 ((rd_T39 l0 x16_1).f1).length c760_1] 39 (0, 0)) (lK BK758) k_ hk, Kd.freshB (g := gb759) (o := .cells #[.bool ((rd_T39 l1 x16_1).f0), .slice A761_1 ((rd_T39 l1 x16_1).f1).length c761_1] 39 (0, 0)) (lK BK759) k_ hk⟩)); (case aO => exact (by (with_reducible repeat (first | apply Kd.N_alloc | apply Kd.N_drewN | apply Kd.N_drew)); exact Kd.N_mono HO_7.out (fun _ hk => ⟨hk.1.1, ⟨hk.1.2, hk.2⟩⟩))); (case aS => exact (below_size (by repeat (first | (with_reducible first | exact HB.out | apply below_alloc | apply pw_below_drewN | apply below_drew1 | refine below_set ?_ GE758.out | refine below_set ?_ GE759.out) | exact HB.out)))); (case aL => have := LMc9.out; omega); intro v767 w16 ho hb hg hat; rw [← Ny766.out] at ho; have n0_ := Aside0.mk (blk_grown (g := gb758) (o := .cells #[.bool ((rd_T39 l0 x16_1).f0), .slice A760_1 ((rd_T39 l0 x16_1).f1).length c760_1] 39 (0, 0)) (lK BK758) hg (Kd.N_away HO_7.out (fun _ hk => hk.1.2))); have n1_ := Aside0.mk (blk_grown (g := gb759) (o := .cells #[.bool ((rd_T39 l1 x16_1).f0), .slice A761_1 ((rd_T39 l1 x16_1).f1).length c761_1] 39 (0, 0)) (lK BK759) hg (Kd.N_away HO_7.out (fun _ hk => hk.2))); have n2_ := Aside0.mk (Kd.V_afterv (ok := (fun k_ => (w.heap.size ≤ k_) ∧ k_ ≠ gb758 ∧ k_ ≠ gb759)) (by (with_reducible repeat (first | apply Kd.V_alloc | apply Kd.V_drewN | apply Kd.V_drew)); exact Kd.V_mono HO765.out (fun _ hk => ⟨⟨hk.1, ⟨hk.2.2.1, hk.2.2.2⟩⟩, hk.2.1⟩)) hg hat); have n3_ := Aside0.mk (hb); have n4_ := Aside0.mk (ho); clear BK758; clear BK759; clear HO765 HB HO_7; have BK758 := n0_; have BK759 := n1_; have HO765 := n2_; have HB := n3_; have HO768 := n4_; clear n0_ n1_ n2_ n3_ n4_; clear ho hb hg hat))
        go_roundg k1
        case measure => have := HK1.out; omega
        case rel => exact ⟨(y766), (wrap64 (x16_1 + 1)), (by first | rfl | (simp; done) | (simp [*]; done)), H', ⟨by have := HK1.out; omega⟩, ⟨by (with_reducible repeat (first | apply Kd.N_alloc | apply Kd.N_drewN | apply Kd.N_drew)); exact Kd.N_mono HO768.out (fun _ hk => hk.1)⟩, ⟨by repeat (first | (with_reducible first | exact HB.out | apply below_alloc | apply pw_below_drewN | apply below_drew1 | refine below_set ?_ GE758.out | refine below_set ?_ GE759.out) | exact HB.out)⟩⟩
       ·rw [if_neg c9] at H
        exact absurd H (by simp)
      ·rw [if_neg c7] at H
       have c7b0 : decide (x16_1 < (l1.length : Int)) = false := decide_eq_false c7
       clear c7
       replace H := Option.bind_eq_some_iff.mp H
       obtain ⟨⟨t769, t770⟩, A180, H⟩ := H
       replace H : (if x7_1.length < 4398046511104 then (poly_placed.l0 k1 l0 l1 (x7_1 ++ [(⟨t769, t770⟩ : S39)]) ji3 (wrap64 (x16_1 + 1))) else (none)) = some r := H
       have A18 := Aside0.mk A180
       clear A180
       by_cases c19 : x7_1.length < 4398046511104
       ·rw [if_pos c19] at H
        have LMc19 := Aside0.mk c19
        clear c19
        obtain ⟨y773, hy773⟩ : ∃ y_ : List (S39), y_ = (x7_1 ++ [(⟨t769, t770⟩ : S39)]) := ⟨_, rfl⟩
        replace H : (poly_placed.l0 k1 l0 l1 y773 ji3 (wrap64 (x16_1 + 1))) = some r := by first | (rw [hy773]; with_reducible exact H) | (have H2_ := (Option.bind_some _ _).symm.trans H; rw [hy773]; with_reducible exact H2_) | (have H2_ := (Option.bind_some _ _).symm.trans H; with_reducible exact H2_) | with_reducible exact H | (rw [hy773]; exact H) | exact H
        have Ny773 := Aside0.mk hy773
        clear hy773
        have H' := Aside0.mk H
        clear H
        go_wp2_with (first | ((with_reducible refine gate_dst (N := 9) rfl ?_); refine box_event ?hg (N := 9) ?hd (cs := #[.bool false, .slice none 0 0]) (t := 39) ?hr ?_; (case hd => rfl); (case hg => rfl); (case hr => first | (go_simp; done) | (go_simp; rfl)); intro gb758 hg w20 hbox hb; have n0_ := Aside0.mk (Kd.N_below (Kd.N_elderB (lN HO_7) gb758 (Nat.le_of_eq hg.symm)) hb); have n1_ := Aside0.mk (below_step (lB HB) hb); have n2_ := Aside0.mk (hbox); have n3_ := Aside0.mk ((by rw [hg]; exact (below_size (lB HB)) : w.heap.size ≤ gb758)); have n4_ := Aside0.mk ((by rw [hg]; exact (below_size (lB HB)) : w.heap.size ≤ gb758)); clear HO_7 HB; have HO_7 := n0_; have HB := n1_; have BK758 := n2_; have GW758 := n3_; have GE758 := n4_; clear n0_ n1_ n2_ n3_ n4_; clear hb hbox hg) | ((with_reducible refine gate_dst (N := 10) rfl ?_); refine box_event ?hg (N := 10) ?hd (cs := #[.bool false, .slice none 0 0]) (t := 39) ?hr ?_; (case hd => rfl); (case hg => rfl); (case hr => first | (go_simp; done) | (go_simp; rfl)); intro gb759 hg w21 hbox hb; have n0_ := Aside0.mk (Kd.N_below (Kd.N_elderB (lN HO_7) gb759 (Nat.le_of_eq hg.symm)) hb); have n1_ := Aside0.mk (blk_below (g := gb758) (o := .cells #[.bool false, .slice none 0 0] 39 (0, 0)) (lK BK758) hb); have n2_ := Aside0.mk (below_step (by repeat (first | (with_reducible first | exact HB.out | apply below_alloc | apply pw_below_drewN | apply below_drew1 | refine below_set ?_ GE758.out) | exact HB.out)) hb); have n3_ := Aside0.mk (hbox); have n4_ := Aside0.mk ((by rw [hg]; exact (below_size (by repeat (first | (with_reducible first | exact HB.out | apply below_alloc | apply pw_below_drewN | apply below_drew1 | refine below_set ?_ GE758.out) | exact HB.out))) : w.heap.size ≤ gb759)); have n5_ := Aside0.mk ((by rw [hg]; exact (below_size (by repeat (first | (with_reducible first | exact HB.out | apply below_alloc | apply pw_below_drewN | apply below_drew1 | refine below_set ?_ GE758.out) | exact HB.out))) : w.heap.size ≤ gb759)); have n6_ := Aside0.mk ((by rw [hg]; exact Nat.ne_of_lt (blk_lt (g := gb758) (o := .cells #[.bool false, .slice none 0 0] 39 (0, 0)) (lK BK758)) : gb758 ≠ gb759)); have n7_ := Aside0.mk ((by rw [hg]; exact Nat.ne_of_gt (blk_lt (g := gb758) (o := .cells #[.bool false, .slice none 0 0] 39 (0, 0)) (lK BK758)) : gb759 ≠ gb758)); clear HO_7; clear BK758; clear HB; have HO_7 := n0_; have BK758 := n1_; have HB := n2_; have BK759 := n3_; have GW759 := n4_; have GE759 := n5_; have NB758_759 := n6_; have NB759_758 := n7_; clear n0_ n1_ n2_ n3_ n4_ n5_ n6_ n7_; clear hb hbox hg; have p760 : 0 ≤ (x16_1 : Int) := of_decide_eq_true (by first | (with_reducible assumption) | assumption); have q760 : x16_1 < (l0.length : Int) := of_decide_eq_true (by first | (with_reducible assumption) | assumption); obtain ⟨ad760, A760_1, c760_1, e760, hx760_0, hx760_1, hl760_1, hi760_1⟩ := at_T39 HR0.out x16_1 p760 q760; cases e760; replace hx760_0 := (HB.out.cell (World.block_lt_of_cell? w _ hx760_0)).trans hx760_0; replace hx760_1 := (HB.out.cell (World.block_lt_of_cell? w _ hx760_1)).trans hx760_1; have HR760_1 := Aside0.mk hi760_1; have HC760_1 := Aside0.mk hl760_1; clear hi760_1 hl760_1; replace p760 := eq_true p760; replace q760 := eq_true q760; have hnb22 := NB758_759.out; have hnc22 := NB759_758.out; have hcz23_0 : w21.cell? ⟨gb758, 0, none⟩ = some (.bool false) := (blk_cell BK758.out 0).trans rfl; have hcz23_1 : w21.cell? ⟨gb758, 1, none⟩ = some (.slice none 0 0) := (blk_cell BK758.out 1).trans rfl; have hfz23_0 := blk_frozen BK758.out 0; have hfz23_1 := blk_frozen BK758.out 1; have hcz24_0 : w21.cell? ⟨gb759, 0, none⟩ = some (.bool false) := (blk_cell BK759.out 0).trans rfl; have hcz24_1 : w21.cell? ⟨gb759, 1, none⟩ = some (.slice none 0 0) := (blk_cell BK759.out 1).trans rfl; have hfz24_0 := blk_frozen BK759.out 0; have hfz24_1 := blk_frozen BK759.out 1) | ((with_reducible refine gate_callee_v rfl ?_); refine goesL_v (some 39) rfl rfl Tryd.func36 (by kernel_rfl) rfl #[.agg #[.bool ((rd_T39 l0 x16_1).f0), .slice A760_1 ((rd_T39 l0 x16_1).f1).length c760_1], .agg #[.bool false, .slice none 0 0]] rfl rfl (by (try simp only [List.map_toArray, List.map_cons, List.map_nil]); first | done | rfl | (simp only [List.length_drop, List.length_take]; rfl)) ?_; (refine (integer_Int_Add.calls k1 ((rd_T39 l0 x16_1).f0) _ _ ((rd_T39 l0 x16_1).f1) false _ _ ([] : List Int) t769 t770 _ ?side1 ?side2 ?side3 ?side4 A18.out).mono ?_); (case side1 => exact Kd.C_below HR760_1.out (by repeat (first | (with_reducible first | exact HB.out | apply below_alloc | apply pw_below_drewN | apply below_drew1 | refine below_set ?_ GE758.out | refine below_set ?_ GE759.out) | exact HB.out))); (case side2 => exact HC760_1.out); (case side3 => exact Kd.C_nil _ _); (case side4 => exact Nat.le_refl _); rintro e w25 ⟨v771, rfl, ho0, hb⟩; refine ⟨_, rfl, ?_⟩; have n0_ := Aside0.mk (Kd.N_below (by (with_reducible repeat (first | apply Kd.N_alloc | apply Kd.N_drewN | apply Kd.N_drew)); exact (Kd.N_mono (Kd.N_far (p := ⟨gb758, 1, none⟩) (Kd.N_far (p := ⟨gb758, 0, none⟩) (Kd.N_mono HO_7.out (fun k_ hk => (⟨hk, hk.1.2⟩ : _ ∧ k_ ≠ gb758))) (fun _ hk => hk.2) (.bool ((rd_T39 l0 x16_1).f0))) (fun _ hk => hk.2) (.slice A760_1 ((rd_T39 l0 x16_1).f1).length c760_1)) (fun _ h_ => h_.1))) hb); have n1_ := Aside0.mk (Kd.V_lower (Kd.V_mono (ok' := fun k_ => (w.heap.size ≤ k_) ∧ some k_ ≠ (u7 : Value).ownBlock ∧ k_ ≠ gb758 ∧ k_ ≠ gb759) ho0 (fun k_ hk_ => ⟨(Nat.le_trans (below_size (by repeat (first | (with_reducible first | exact HB.out | apply below_alloc | apply pw_below_drewN | apply below_drew1 | refine below_set ?_ GE758.out | refine below_set ?_ GE759.out) | exact HB.out))) hk_), (Kd.fresh' (Kd.N_lt (by (with_reducible repeat (first | apply Kd.N_alloc | apply Kd.N_drewN | apply Kd.N_drew)); exact (Kd.N_mono (Kd.N_far (p := ⟨gb758, 1, none⟩) (Kd.N_far (p := ⟨gb758, 0, none⟩) (Kd.N_mono HO_7.out (fun k_ hk => (⟨hk, hk.1.2⟩ : _ ∧ k_ ≠ gb758))) (fun _ hk => hk.2) (.bool ((rd_T39 l0 x16_1).f0))) (fun _ hk => hk.2) (.slice A760_1 ((rd_T39 l0 x16_1).f1).length c760_1)) (fun _ h_ => h_.1)))) k_ hk_), (Kd.freshB (g := gb758) (o := .cells #[.bool ((rd_T39 l0 x16_1).f0), .slice A760_1 ((rd_T39 l0 x16_1).f1).length c760_1] 39 (0, 0)) (by (with_reducible repeat (first | refine blk_drewN ?_ _ | refine blk_drew ?_ | refine blk_alloc ?_ _)); refine blk_put (cs := #[.bool ((rd_T39 l0 x16_1).f0), .slice none 0 0]) ?_ 1 _ rfl; (with_reducible repeat (first | refine blk_drewN ?_ _ | refine blk_drew ?_ | refine blk_alloc ?_ _)); refine blk_put (cs := #[.bool false, .slice none 0 0]) ?_ 0 _ rfl; (with_reducible repeat (first | refine blk_drewN ?_ _ | refine blk_drew ?_ | refine blk_alloc ?_ _)); exact BK758.out) k_ hk_), (Kd.freshB (g := gb759) (o := .cells #[.bool false, .slice none 0 0] 39 (0, 0)) (by (with_reducible repeat (first | refine blk_drewN ?_ _ | refine blk_drew ?_ | refine blk_alloc ?_ _)); refine blk_far ?_ NB759_758.out _; (with_reducible repeat (first | refine blk_drewN ?_ _ | refine blk_drew ?_ | refine blk_alloc ?_ _)); refine blk_far ?_ NB759_758.out _; (with_reducible repeat (first | refine blk_drewN ?_ _ | refine blk_drew ?_ | refine blk_alloc ?_ _)); exact BK759.out) k_ hk_)⟩)) (below_size (by repeat (first | (with_reducible first | exact HB.out | apply below_alloc | apply pw_below_drewN | apply below_drew1 | refine below_set ?_ GE758.out | refine below_set ?_ GE759.out) | exact HB.out)))); have n2_ := Aside0.mk (blk_below (g := gb758) (o := .cells #[.bool ((rd_T39 l0 x16_1).f0), .slice A760_1 ((rd_T39 l0 x16_1).f1).length c760_1] 39 (0, 0)) (by (with_reducible repeat (first | refine blk_drewN ?_ _ | refine blk_drew ?_ | refine blk_alloc ?_ _)); refine blk_put (cs := #[.bool ((rd_T39 l0 x16_1).f0), .slice none 0 0]) ?_ 1 _ rfl; (with_reducible repeat (first | refine blk_drewN ?_ _ | refine blk_drew ?_ | refine blk_alloc ?_ _)); refine blk_put (cs := #[.bool false, .slice none 0 0]) ?_ 0 _ rfl; (with_reducible repeat (first | refine blk_drewN ?_ _ | refine blk_drew ?_ | refine blk_alloc ?_ _)); exact BK758.out) hb); have n3_ := Aside0.mk (blk_below (g := gb759) (o := .cells #[.bool false, .slice none 0 0] 39 (0, 0)) (by (with_reducible repeat (first | refine blk_drewN ?_ _ | refine blk_drew ?_ | refine blk_alloc ?_ _)); refine blk_far ?_ NB759_758.out _; (with_reducible repeat (first | refine blk_drewN ?_ _ | refine blk_drew ?_ | refine blk_alloc ?_ _)); refine blk_far ?_ NB759_758.out _; (with_reducible repeat (first | refine blk_drewN ?_ _ | refine blk_drew ?_ | refine blk_alloc ?_ _)); exact BK759.out) hb); have n4_ := Aside0.mk (below_step (by repeat (first | (with_reducible first | exact HB.out | apply below_alloc | apply pw_below_drewN | apply below_drew1 | refine below_set ?_ GE758.out | refine below_set ?_ GE759.out) | exact HB.out)) hb); clear HO_7; clear BK758; clear BK759; clear HB; have HO_7 := n0_; have HO772 := n1_; have BK758 := n2_; have BK759 := n3_; have HB := n4_; clear n0_ n1_ n2_ n3_ n4_; (try clear hb); (try clear hb2); (try clear hk); (try clear hi); (try clear ho0); obtain ⟨Ao27, co27, eo27⟩ := Kd.V_slice HO772.out; subst eo27) | ((with_reducible refine gate_builtin (b := .append) (xs := #[.tmp 35, .tmp 40]) rfl ?_); at_builtin; refine Kd.N_append k39 (w0 := w) w.heap.size rfl (.tmp 35) (.tmp 40) 24 39 (.agg #[(.bool false), (.slice none 0 0)]) 32 rfl Tryd.underlying24 info39 rfl (by decide) (by omega) u7 x7_1 (⟨t769, t770⟩ : S39) [.bool t769, .slice Ao27 t770.length co27] (fun k_ => (w.heap.size ≤ k_) ∧ k_ ≠ gb758 ∧ k_ ≠ gb759) (fun k_ => ((fun k_ => (w.heap.size ≤ k_) ∧ k_ ≠ gb758 ∧ k_ ≠ gb759)) k_ ∧ some k_ ≠ (u7 : Value).ownBlock) rfl rfl ?aP (fun _ hk => hk) ?aF ?aO ?aB ?aS ?aL ?_; (case aP => exact (k39_mkF _ _ (⟨t769, t770⟩ : S39) (Kd.V_reads' (Kd.V_mono (ok' := (fun k_ => ((fun k_ => (w.heap.size ≤ k_) ∧ k_ ≠ gb758 ∧ k_ ≠ gb759)) k_ ∧ some k_ ≠ (u7 : Value).ownBlock)) (HO772.out) (fun k_ hk => ⟨⟨hk.1, ⟨hk.2.2.1, hk.2.2.2⟩⟩, hk.2.1⟩))).2.1 (Kd.V_F (Kd.V_mono (ok' := (fun k_ => ((fun k_ => (w.heap.size ≤ k_) ∧ k_ ≠ gb758 ∧ k_ ≠ gb759)) k_ ∧ some k_ ≠ (u7 : Value).ownBlock)) (HO772.out) (fun k_ hk => ⟨⟨hk.1, ⟨hk.2.2.1, hk.2.2.2⟩⟩, hk.2.1⟩))))); (case aB => exact (by repeat (first | (with_reducible first | exact HB.out | apply below_alloc | apply pw_below_drewN | apply below_drew1 | refine below_set ?_ GE758.out | refine below_set ?_ GE759.out) | exact HB.out))); (case aF => exact (fun k_ hk => ⟨(Nat.le_trans (below_size (by repeat (first | (with_reducible first | exact HB.out | apply below_alloc | apply pw_below_drewN | apply below_drew1 | refine below_set ?_ GE758.out | refine below_set ?_ GE759.out) | exact HB.out))) hk), Kd.freshB (g := gb758) (o := .cells #[.bool ((rd_T39 l0 x16_1).f0), .slice A760_1 ((rd_T39 l0 x16_1).f1).length c760_1] 39 (0, 0)) (lK BK758) k_ hk, Kd.freshB (g := gb759) (o := .cells #[.bool false, .slice none 0 0] 39 (0, 0)) (lK BK759) k_ hk⟩)); (case aO => exact (by (with_reducible repeat (first | apply Kd.N_alloc | apply Kd.N_drewN | apply Kd.N_drew)); exact Kd.N_mono HO_7.out (fun _ hk => ⟨hk.1.1, ⟨hk.1.2, hk.2⟩⟩))); (case aS => exact (below_size (by repeat (first | (with_reducible first | exact HB.out | apply below_alloc | apply pw_below_drewN | apply below_drew1 | refine below_set ?_ GE758.out | refine below_set ?_ GE759.out) | exact HB.out)))); (case aL => have := LMc19.out; omega); intro v774 w26 ho hb hg hat; rw [← Ny773.out] at ho; have n0_ := Aside0.mk (blk_grown (g := gb758) (o := .cells #[.bool ((rd_T39 l0 x16_1).f0), .slice A760_1 ((rd_T39 l0 x16_1).f1).length c760_1] 39 (0, 0)) (lK BK758) hg (Kd.N_away HO_7.out (fun _ hk => hk.1.2))); have n1_ := Aside0.mk (blk_grown (g := gb759) (o := .cells #[.bool false, .slice none 0 0] 39 (0, 0)) (lK BK759) hg (Kd.N_away HO_7.out (fun _ hk => hk.2))); have n2_ := Aside0.mk (Kd.V_afterv (ok := (fun k_ => (w.heap.size ≤ k_) ∧ k_ ≠ gb758 ∧ k_ ≠ gb759)) (by (with_reducible repeat (first | apply Kd.V_alloc | apply Kd.V_drewN | apply Kd.V_drew)); exact Kd.V_mono HO772.out (fun _ hk => ⟨⟨hk.1, ⟨hk.2.2.1, hk.2.2.2⟩⟩, hk.2.1⟩)) hg hat); have n3_ := Aside0.mk (hb); have n4_ := Aside0.mk (ho); clear BK758; clear BK759; clear HO772 HB HO_7; have BK758 := n0_; have BK759 := n1_; have HO772 := n2_; have HB := n3_; have HO775 := n4_; clear n0_ n1_ n2_ n3_ n4_; clear ho hb hg hat))
        go_roundg k1
        case measure => have := HK1.out; omega
        case rel => exact ⟨(y773), (wrap64 (x16_1 + 1)), (by first | rfl | (simp; done) | (simp [*]; done)), H', ⟨by have := HK1.out; omega⟩, ⟨by (with_reducible repeat (first | apply Kd.N_alloc | apply Kd.N_drewN | apply Kd.N_drew)); exact Kd.N_mono HO775.out (fun _ hk => hk.1)⟩, ⟨by repeat (first | (with_reducible first | exact HB.out | apply below_alloc | apply pw_below_drewN | apply below_drew1 | refine below_set ?_ GE758.out | refine below_set ?_ GE759.out) | exact HB.out)⟩⟩
       ·rw [if_neg c19] at H
        exact absurd H (by simp)
     ·rw [if_neg c6] at H
      exact absurd H (by simp)
    ·rw [if_neg c5] at H
     have c5b0 : decide (x16_1 < (l0.length : Int)) = false := decide_eq_false c5
     clear c5
     by_cases c28 : x16_1 < (l1.length : Int)
     ·rw [if_pos c28] at H
      have c28b0 : decide (x16_1 < (l1.length : Int)) = true := decide_eq_true c28
      clear c28
      by_cases c29 : 0 ≤ x16_1
      ·rw [if_pos c29] at H
       have c29b0 : decide (0 ≤ x16_1) = true := decide_eq_true c29
       clear c29
       replace H := Option.bind_eq_some_iff.mp H
       obtain ⟨⟨t777, t778⟩, A300, H⟩ := H
       replace H : (if x7_1.length < 4398046511104 then (poly_placed.l0 k1 l0 l1 (x7_1 ++ [(⟨t777, t778⟩ : S39)]) ji3 (wrap64 (x16_1 + 1))) else (none)) = some r := H
       have A30 := Aside0.mk A300
       clear A300
       by_cases c31 : x7_1.length < 4398046511104
       ·rw [if_pos c31] at H
        have LMc31 := Aside0.mk c31
        clear c31
        obtain ⟨y781, hy781⟩ : ∃ y_ : List (S39), y_ = (x7_1 ++ [(⟨t777, t778⟩ : S39)]) := ⟨_, rfl⟩
        replace H : (poly_placed.l0 k1 l0 l1 y781 ji3 (wrap64 (x16_1 + 1))) = some r := by first | (rw [hy781]; with_reducible exact H) | (have H2_ := (Option.bind_some _ _).symm.trans H; rw [hy781]; with_reducible exact H2_) | (have H2_ := (Option.bind_some _ _).symm.trans H; with_reducible exact H2_) | with_reducible exact H | (rw [hy781]; exact H) | exact H
        have Ny781 := Aside0.mk hy781
        clear hy781
        have H' := Aside0.mk H
        clear H
        go_wp2_with (first | ((with_reducible refine gate_dst (N := 9) rfl ?_); refine box_event ?hg (N := 9) ?hd (cs := #[.bool false, .slice none 0 0]) (t := 39) ?hr ?_; (case hd => rfl); (case hg => rfl); (case hr => first | (go_simp; done) | (go_simp; rfl)); intro gb758 hg w32 hbox hb; have n0_ := Aside0.mk (Kd.N_below (Kd.N_elderB (lN HO_7) gb758 (Nat.le_of_eq hg.symm)) hb); have n1_ := Aside0.mk (below_step (lB HB) hb); have n2_ := Aside0.mk (hbox); have n3_ := Aside0.mk ((by rw [hg]; exact (below_size (lB HB)) : w.heap.size ≤ gb758)); have n4_ := Aside0.mk ((by rw [hg]; exact (below_size (lB HB)) : w.heap.size ≤ gb758)); clear HO_7 HB; have HO_7 := n0_; have HB := n1_; have BK758 := n2_; have GW758 := n3_; have GE758 := n4_; clear n0_ n1_ n2_ n3_ n4_; clear hb hbox hg) | ((with_reducible refine gate_dst (N := 10) rfl ?_); refine box_event ?hg (N := 10) ?hd (cs := #[.bool false, .slice none 0 0]) (t := 39) ?hr ?_; (case hd => rfl); (case hg => rfl); (case hr => first | (go_simp; done) | (go_simp; rfl)); intro gb759 hg w33 hbox hb; have n0_ := Aside0.mk (Kd.N_below (Kd.N_elderB (lN HO_7) gb759 (Nat.le_of_eq hg.symm)) hb); have n1_ := Aside0.mk (blk_below (g := gb758) (o := .cells #[.bool false, .slice none 0 0] 39 (0, 0)) (lK BK758) hb); have n2_ := Aside0.mk (below_step (by repeat (first | (with_reducible first | exact HB.out | apply below_alloc | apply pw_below_drewN | apply below_drew1 | refine below_set ?_ GE758.out) | exact HB.out)) hb); have n3_ := Aside0.mk (hbox); have n4_ := Aside0.mk ((by rw [hg]; exact (below_size (by repeat (first | (with_reducible first | exact HB.out | apply below_alloc | apply pw_below_drewN | apply below_drew1 | refine below_set ?_ GE758.out) | exact HB.out))) : w.heap.size ≤ gb759)); have n5_ := Aside0.mk ((by rw [hg]; exact (below_size (by repeat (first | (with_reducible first | exact HB.out | apply below_alloc | apply pw_below_drewN | apply below_drew1 | refine below_set ?_ GE758.out) | exact HB.out))) : w.heap.size ≤ gb759)); have n6_ := Aside0.mk ((by rw [hg]; exact Nat.ne_of_lt (blk_lt (g := gb758) (o := .cells #[.bool false, .slice none 0 0] 39 (0, 0)) (lK BK758)) : gb758 ≠ gb759)); have n7_ := Aside0.mk ((by rw [hg]; exact Nat.ne_of_gt (blk_lt (g := gb758) (o := .cells #[.bool false, .slice none 0 0] 39 (0, 0)) (lK BK758)) : gb759 ≠ gb758)); clear HO_7; clear BK758; clear HB; have HO_7 := n0_; have BK758 := n1_; have HB := n2_; have BK759 := n3_; have GW759 := n4_; have GE759 := n5_; have NB758_759 := n6_; have NB759_758 := n7_; clear n0_ n1_ n2_ n3_ n4_ n5_ n6_ n7_; clear hb hbox hg; have p776 : 0 ≤ (x16_1 : Int) := of_decide_eq_true (by first | (with_reducible assumption) | assumption); have q776 : x16_1 < (l1.length : Int) := of_decide_eq_true (by first | (with_reducible assumption) | assumption); obtain ⟨ad776, A776_1, c776_1, e776, hx776_0, hx776_1, hl776_1, hi776_1⟩ := at_T39 HR1.out x16_1 p776 q776; cases e776; replace hx776_0 := (HB.out.cell (World.block_lt_of_cell? w _ hx776_0)).trans hx776_0; replace hx776_1 := (HB.out.cell (World.block_lt_of_cell? w _ hx776_1)).trans hx776_1; have HR776_1 := Aside0.mk hi776_1; have HC776_1 := Aside0.mk hl776_1; clear hi776_1 hl776_1; replace p776 := eq_true p776; replace q776 := eq_true q776; have hnb34 := NB759_758.out; have hnc34 := NB758_759.out; have hcz35_0 : w33.cell? ⟨gb759, 0, none⟩ = some (.bool false) := (blk_cell BK759.out 0).trans rfl; have hcz35_1 : w33.cell? ⟨gb759, 1, none⟩ = some (.slice none 0 0) := (blk_cell BK759.out 1).trans rfl; have hfz35_0 := blk_frozen BK759.out 0; have hfz35_1 := blk_frozen BK759.out 1; have hcz36_0 : w33.cell? ⟨gb758, 0, none⟩ = some (.bool false) := (blk_cell BK758.out 0).trans rfl; have hcz36_1 : w33.cell? ⟨gb758, 1, none⟩ = some (.slice none 0 0) := (blk_cell BK758.out 1).trans rfl; have hfz36_0 := blk_frozen BK758.out 0; have hfz36_1 := blk_frozen BK758.out 1) | ((with_reducible refine gate_callee_v rfl ?_); refine goesL_v (some 39) rfl rfl Tryd.func36 (by kernel_rfl) rfl #[.agg #[.bool false, .slice none 0 0], .agg #[.bool ((rd_T39 l1 x16_1).f0), .slice A776_1 ((rd_T39 l1 x16_1).f1).length c776_1]] rfl rfl (by (try simp only [List.map_toArray, List.map_cons, List.map_nil]); first | done | rfl | (simp only [List.length_drop, List.length_take]; rfl)) ?_; (refine (integer_Int_Add.calls k1 false _ _ ([] : List Int) ((rd_T39 l1 x16_1).f0) _ _ ((rd_T39 l1 x16_1).f1) t777 t778 _ ?side1 ?side2 ?side3 ?side4 A30.out).mono ?_); (case side1 => exact Kd.C_nil _ _); (case side2 => exact Nat.le_refl _); (case side3 => exact Kd.C_below HR776_1.out (by repeat (first | (with_reducible first | exact HB.out | apply below_alloc | apply pw_below_drewN | apply below_drew1 | refine below_set ?_ GE758.out | refine below_set ?_ GE759.out) | exact HB.out))); (case side4 => exact HC776_1.out); rintro e w37 ⟨v779, rfl, ho0, hb⟩; refine ⟨_, rfl, ?_⟩; have n0_ := Aside0.mk (Kd.N_below (by (with_reducible repeat (first | apply Kd.N_alloc | apply Kd.N_drewN | apply Kd.N_drew)); exact (Kd.N_mono (Kd.N_far (p := ⟨gb759, 1, none⟩) (Kd.N_far (p := ⟨gb759, 0, none⟩) (Kd.N_mono HO_7.out (fun k_ hk => (⟨hk, hk.2⟩ : _ ∧ k_ ≠ gb759))) (fun _ hk => hk.2) (.bool ((rd_T39 l1 x16_1).f0))) (fun _ hk => hk.2) (.slice A776_1 ((rd_T39 l1 x16_1).f1).length c776_1)) (fun _ h_ => h_.1))) hb); have n1_ := Aside0.mk (Kd.V_lower (Kd.V_mono (ok' := fun k_ => (w.heap.size ≤ k_) ∧ some k_ ≠ (u7 : Value).ownBlock ∧ k_ ≠ gb758 ∧ k_ ≠ gb759) ho0 (fun k_ hk_ => ⟨(Nat.le_trans (below_size (by repeat (first | (with_reducible first | exact HB.out | apply below_alloc | apply pw_below_drewN | apply below_drew1 | refine below_set ?_ GE758.out | refine below_set ?_ GE759.out) | exact HB.out))) hk_), (Kd.fresh' (Kd.N_lt (by (with_reducible repeat (first | apply Kd.N_alloc | apply Kd.N_drewN | apply Kd.N_drew)); exact (Kd.N_mono (Kd.N_far (p := ⟨gb759, 1, none⟩) (Kd.N_far (p := ⟨gb759, 0, none⟩) (Kd.N_mono HO_7.out (fun k_ hk => (⟨hk, hk.2⟩ : _ ∧ k_ ≠ gb759))) (fun _ hk => hk.2) (.bool ((rd_T39 l1 x16_1).f0))) (fun _ hk => hk.2) (.slice A776_1 ((rd_T39 l1 x16_1).f1).length c776_1)) (fun _ h_ => h_.1)))) k_ hk_), (Kd.freshB (g := gb758) (o := .cells #[.bool false, .slice none 0 0] 39 (0, 0)) (by (with_reducible repeat (first | refine blk_drewN ?_ _ | refine blk_drew ?_ | refine blk_alloc ?_ _)); refine blk_far ?_ NB758_759.out _; (with_reducible repeat (first | refine blk_drewN ?_ _ | refine blk_drew ?_ | refine blk_alloc ?_ _)); refine blk_far ?_ NB758_759.out _; (with_reducible repeat (first | refine blk_drewN ?_ _ | refine blk_drew ?_ | refine blk_alloc ?_ _)); exact BK758.out) k_ hk_), (Kd.freshB (g := gb759) (o := .cells #[.bool ((rd_T39 l1 x16_1).f0), .slice A776_1 ((rd_T39 l1 x16_1).f1).length c776_1] 39 (0, 0)) (by (with_reducible repeat (first | refine blk_drewN ?_ _ | refine blk_drew ?_ | refine blk_alloc ?_ _)); refine blk_put (cs := #[.bool ((rd_T39 l1 x16_1).f0), .slice none 0 0]) ?_ 1 _ rfl; (with_reducible repeat (first | refine blk_drewN ?_ _ | refine blk_drew ?_ | refine blk_alloc ?_ _)); refine blk_put (cs := #[.bool false, .slice none 0 0]) ?_ 0 _ rfl; (with_reducible repeat (first | refine blk_drewN ?_ _ | refine blk_drew ?_ | refine blk_alloc ?_ _)); exact BK759.out) k_ hk_)⟩)) (below_size (by repeat (first | (with_reducible first | exact HB.out | apply below_alloc | apply pw_below_drewN | apply below_drew1 | refine below_set ?_ GE758.out | refine below_set ?_ GE759.out) | exact HB.out)))); have n2_ := Aside0.mk (blk_below (g := gb758) (o := .cells #[.bool false, .slice none 0 0] 39 (0, 0)) (by (with_reducible repeat (first | refine blk_drewN ?_ _ | refine blk_drew ?_ | refine blk_alloc ?_ _)); refine blk_far ?_ NB758_759.out _; (with_reducible repeat (first | refine blk_drewN ?_ _ | refine blk_drew ?_ | refine blk_alloc ?_ _)); refine blk_far ?_ NB758_759.out _; (with_reducible repeat (first | refine blk_drewN ?_ _ | refine blk_drew ?_ | refine blk_alloc ?_ _)); exact BK758.out) hb); have n3_ := Aside0.mk (blk_below (g := gb759) (o := .cells #[.bool ((rd_T39 l1 x16_1).f0), .slice A776_1 ((rd_T39 l1 x16_1).f1).length c776_1] 39 (0, 0)) (by (with_reducible repeat (first | refine blk_drewN ?_ _ | refine blk_drew ?_ | refine blk_alloc ?_ _)); refine blk_put (cs := #[.bool ((rd_T39 l1 x16_1).f0), .slice none 0 0]) ?_ 1 _ rfl; (with_reducible repeat (first | refine blk_drewN ?_ _ | refine blk_drew ?_ | refine blk_alloc ?_ _)); refine blk_put (cs := #[.bool false, .slice none 0 0]) ?_ 0 _ rfl; (with_reducible repeat (first | refine blk_drewN ?_ _ | refine blk_drew ?_ | refine blk_alloc ?_ _)); exact BK759.out) hb); have n4_ := Aside0.mk (below_step (by repeat (first | (with_reducible first | exact HB.out | apply below_alloc | apply pw_below_drewN | apply below_drew1 | refine below_set ?_ GE758.out | refine below_set ?_ GE759.out) | exact HB.out)) hb); clear HO_7; clear BK758; clear BK759; clear HB; have HO_7 := n0_; have HO780 := n1_; have BK758 := n2_; have BK759 := n3_; have HB := n4_; clear n0_ n1_ n2_ n3_ n4_; (try clear hb); (try clear hb2); (try clear hk); (try clear hi); (try clear ho0); obtain ⟨Ao39, co39, eo39⟩ := Kd.V_slice HO780.out; subst eo39) | ((with_reducible refine gate_builtin (b := .append) (xs := #[.tmp 35, .tmp 40]) rfl ?_); at_builtin; refine Kd.N_append k39 (w0 := w) w.heap.size rfl (.tmp 35) (.tmp 40) 24 39 (.agg #[(.bool false), (.slice none 0 0)]) 32 rfl Tryd.underlying24 info39 rfl (by decide) (by omega) u7 x7_1 (⟨t777, t778⟩ : S39) [.bool t777, .slice Ao39 t778.length co39] (fun k_ => (w.heap.size ≤ k_) ∧ k_ ≠ gb758 ∧ k_ ≠ gb759) (fun k_ => ((fun k_ => (w.heap.size ≤ k_) ∧ k_ ≠ gb758 ∧ k_ ≠ gb759)) k_ ∧ some k_ ≠ (u7 : Value).ownBlock) rfl rfl ?aP (fun _ hk => hk) ?aF ?aO ?aB ?aS ?aL ?_; (case aP => exact (k39_mkF _ _ (⟨t777, t778⟩ : S39) (Kd.V_reads' (Kd.V_mono (ok' := (fun k_ => ((fun k_ => (w.heap.size ≤ k_) ∧ k_ ≠ gb758 ∧ k_ ≠ gb759)) k_ ∧ some k_ ≠ (u7 : Value).ownBlock)) (HO780.out) (fun k_ hk => ⟨⟨hk.1, ⟨hk.2.2.1, hk.2.2.2⟩⟩, hk.2.1⟩))).2.1 (Kd.V_F (Kd.V_mono (ok' := (fun k_ => ((fun k_ => (w.heap.size ≤ k_) ∧ k_ ≠ gb758 ∧ k_ ≠ gb759)) k_ ∧ some k_ ≠ (u7 : Value).ownBlock)) (HO780.out) (fun k_ hk => ⟨⟨hk.1, ⟨hk.2.2.1, hk.2.2.2⟩⟩, hk.2.1⟩))))); (case aB => exact (by repeat (first | (with_reducible first | exact HB.out | apply below_alloc | apply pw_below_drewN | apply below_drew1 | refine below_set ?_ GE758.out | refine below_set ?_ GE759.out) | exact HB.out))); (case aF => exact (fun k_ hk => ⟨(Nat.le_trans (below_size (by repeat (first | (with_reducible first | exact HB.out | apply below_alloc | apply pw_below_drewN | apply below_drew1 | refine below_set ?_ GE758.out | refine below_set ?_ GE759.out) | exact HB.out))) hk), Kd.freshB (g := gb758) (o := .cells #[.bool false, .slice none 0 0] 39 (0, 0)) (lK BK758) k_ hk, Kd.freshB (g := gb759) (o := .cells #[.bool ((rd_T39 l1 x16_1).f0), .slice A776_1 ((rd_T39 l1 x16_1).f1).length c776_1] 39 (0, 0)) (lK BK759) k_ hk⟩)); (case aO => exact (by (with_reducible repeat (first | apply Kd.N_alloc | apply Kd.N_drewN | apply Kd.N_drew)); exact Kd.N_mono HO_7.out (fun _ hk => ⟨hk.1.1, ⟨hk.1.2, hk.2⟩⟩))); (case aS => exact (below_size (by repeat (first | (with_reducible first | exact HB.out | apply below_alloc | apply pw_below_drewN | apply below_drew1 | refine below_set ?_ GE758.out | refine below_set ?_ GE759.out) | exact HB.out)))); (case aL => have := LMc31.out; omega); intro v782 w38 ho hb hg hat; rw [← Ny781.out] at ho; have n0_ := Aside0.mk (blk_grown (g := gb758) (o := .cells #[.bool false, .slice none 0 0] 39 (0, 0)) (lK BK758) hg (Kd.N_away HO_7.out (fun _ hk => hk.1.2))); have n1_ := Aside0.mk (blk_grown (g := gb759) (o := .cells #[.bool ((rd_T39 l1 x16_1).f0), .slice A776_1 ((rd_T39 l1 x16_1).f1).length c776_1] 39 (0, 0)) (lK BK759) hg (Kd.N_away HO_7.out (fun _ hk => hk.2))); have n2_ := Aside0.mk (Kd.V_afterv (ok := (fun k_ => (w.heap.size ≤ k_) ∧ k_ ≠ gb758 ∧ k_ ≠ gb759)) (by (with_reducible repeat (first | apply Kd.V_alloc | apply Kd.V_drewN | apply Kd.V_drew)); exact Kd.V_mono HO780.out (fun _ hk => ⟨⟨hk.1, ⟨hk.2.2.1, hk.2.2.2⟩⟩, hk.2.1⟩)) hg hat); have n3_ := Aside0.mk (hb); have n4_ := Aside0.mk (ho); clear BK758; clear BK759; clear HO780 HB HO_7; have BK758 := n0_; have BK759 := n1_; have HO780 := n2_; have HB := n3_; have HO783 := n4_; clear n0_ n1_ n2_ n3_ n4_; clear ho hb hg hat))
        go_roundg k1
        case measure => have := HK1.out; omega
        case rel => exact ⟨(y781), (wrap64 (x16_1 + 1)), (by first | rfl | (simp; done) | (simp [*]; done)), H', ⟨by have := HK1.out; omega⟩, ⟨by (with_reducible repeat (first | apply Kd.N_alloc | apply Kd.N_drewN | apply Kd.N_drew)); exact Kd.N_mono HO783.out (fun _ hk => hk.1)⟩, ⟨by repeat (first | (with_reducible first | exact HB.out | apply below_alloc | apply pw_below_drewN | apply below_drew1 | refine below_set ?_ GE758.out | refine below_set ?_ GE759.out) | exact HB.out)⟩⟩
       ·rw [if_neg c31] at H
        exact absurd H (by simp)
      ·rw [if_neg c29] at H
       exact absurd H (by simp)
     ·rw [if_neg c28] at H
      have c28b0 : decide (x16_1 < (l1.length : Int)) = false := decide_eq_false c28
      clear c28
      replace H := Option.bind_eq_some_iff.mp H
      obtain ⟨⟨t784, t785⟩, A400, H⟩ := H
      replace H : (if x7_1.length < 4398046511104 then (poly_placed.l0 k1 l0 l1 (x7_1 ++ [(⟨t784, t785⟩ : S39)]) ji3 (wrap64 (x16_1 + 1))) else (none)) = some r := H
      have A40 := Aside0.mk A400
      clear A400
      by_cases c41 : x7_1.length < 4398046511104
      ·rw [if_pos c41] at H
       have LMc41 := Aside0.mk c41
       clear c41
       obtain ⟨y788, hy788⟩ : ∃ y_ : List (S39), y_ = (x7_1 ++ [(⟨t784, t785⟩ : S39)]) := ⟨_, rfl⟩
       replace H : (poly_placed.l0 k1 l0 l1 y788 ji3 (wrap64 (x16_1 + 1))) = some r := by first | (rw [hy788]; with_reducible exact H) | (have H2_ := (Option.bind_some _ _).symm.trans H; rw [hy788]; with_reducible exact H2_) | (have H2_ := (Option.bind_some _ _).symm.trans H; with_reducible exact H2_) | with_reducible exact H | (rw [hy788]; exact H) | exact H
       have Ny788 := Aside0.mk hy788
       clear hy788
       have H' := Aside0.mk H
       clear H
       go_wp2_with (first | ((with_reducible refine gate_dst (N := 9) rfl ?_); refine box_event ?hg (N := 9) ?hd (cs := #[.bool false, .slice none 0 0]) (t := 39) ?hr ?_; (case hd => rfl); (case hg => rfl); (case hr => first | (go_simp; done) | (go_simp; rfl)); intro gb758 hg w42 hbox hb; have n0_ := Aside0.mk (Kd.N_below (Kd.N_elderB (lN HO_7) gb758 (Nat.le_of_eq hg.symm)) hb); have n1_ := Aside0.mk (below_step (lB HB) hb); have n2_ := Aside0.mk (hbox); have n3_ := Aside0.mk ((by rw [hg]; exact (below_size (lB HB)) : w.heap.size ≤ gb758)); have n4_ := Aside0.mk ((by rw [hg]; exact (below_size (lB HB)) : w.heap.size ≤ gb758)); clear HO_7 HB; have HO_7 := n0_; have HB := n1_; have BK758 := n2_; have GW758 := n3_; have GE758 := n4_; clear n0_ n1_ n2_ n3_ n4_; clear hb hbox hg) | ((with_reducible refine gate_dst (N := 10) rfl ?_); refine box_event ?hg (N := 10) ?hd (cs := #[.bool false, .slice none 0 0]) (t := 39) ?hr ?_; (case hd => rfl); (case hg => rfl); (case hr => first | (go_simp; done) | (go_simp; rfl)); intro gb759 hg w43 hbox hb; have n0_ := Aside0.mk (Kd.N_below (Kd.N_elderB (lN HO_7) gb759 (Nat.le_of_eq hg.symm)) hb); have n1_ := Aside0.mk (blk_below (g := gb758) (o := .cells #[.bool false, .slice none 0 0] 39 (0, 0)) (lK BK758) hb); have n2_ := Aside0.mk (below_step (by repeat (first | (with_reducible first | exact HB.out | apply below_alloc | apply pw_below_drewN | apply below_drew1 | refine below_set ?_ GE758.out) | exact HB.out)) hb); have n3_ := Aside0.mk (hbox); have n4_ := Aside0.mk ((by rw [hg]; exact (below_size (by repeat (first | (with_reducible first | exact HB.out | apply below_alloc | apply pw_below_drewN | apply below_drew1 | refine below_set ?_ GE758.out) | exact HB.out))) : w.heap.size ≤ gb759)); have n5_ := Aside0.mk ((by rw [hg]; exact (below_size (by repeat (first | (with_reducible first | exact HB.out | apply below_alloc | apply pw_below_drewN | apply below_drew1 | refine below_set ?_ GE758.out) | exact HB.out))) : w.heap.size ≤ gb759)); have n6_ := Aside0.mk ((by rw [hg]; exact Nat.ne_of_lt (blk_lt (g := gb758) (o := .cells #[.bool false, .slice none 0 0] 39 (0, 0)) (lK BK758)) : gb758 ≠ gb759)); have n7_ := Aside0.mk ((by rw [hg]; exact Nat.ne_of_gt (blk_lt (g := gb758) (o := .cells #[.bool false, .slice none 0 0] 39 (0, 0)) (lK BK758)) : gb759 ≠ gb758)); clear HO_7; clear BK758; clear HB; have HO_7 := n0_; have BK758 := n1_; have HB := n2_; have BK759 := n3_; have GW759 := n4_; have GE759 := n5_; have NB758_759 := n6_; have NB759_758 := n7_; clear n0_ n1_ n2_ n3_ n4_ n5_ n6_ n7_; clear hb hbox hg; have hnb44 := NB758_759.out; have hnc44 := NB759_758.out; have hcz45_0 : w43.cell? ⟨gb758, 0, none⟩ = some (.bool false) := (blk_cell BK758.out 0).trans rfl; have hcz45_1 : w43.cell? ⟨gb758, 1, none⟩ = some (.slice none 0 0) := (blk_cell BK758.out 1).trans rfl; have hfz45_0 := blk_frozen BK758.out 0; have hfz45_1 := blk_frozen BK758.out 1; have hcz46_0 : w43.cell? ⟨gb759, 0, none⟩ = some (.bool false) := (blk_cell BK759.out 0).trans rfl; have hcz46_1 : w43.cell? ⟨gb759, 1, none⟩ = some (.slice none 0 0) := (blk_cell BK759.out 1).trans rfl; have hfz46_0 := blk_frozen BK759.out 0; have hfz46_1 := blk_frozen BK759.out 1) | ((with_reducible refine gate_callee_v rfl ?_); refine goesL_v (some 39) rfl rfl Tryd.func36 (by kernel_rfl) rfl #[.agg #[.bool false, .slice none 0 0], .agg #[.bool false, .slice none 0 0]] rfl rfl (by (try simp only [List.map_toArray, List.map_cons, List.map_nil]); first | done | rfl | (simp only [List.length_drop, List.length_take]; rfl)) ?_; (refine (integer_Int_Add.calls k1 false _ _ ([] : List Int) false _ _ ([] : List Int) t784 t785 _ ?side1 ?side2 ?side3 ?side4 A40.out).mono ?_); (case side1 => exact Kd.C_nil _ _); (case side2 => exact Nat.le_refl _); (case side3 => exact Kd.C_nil _ _); (case side4 => exact Nat.le_refl _); rintro e w47 ⟨v786, rfl, ho0, hb⟩; refine ⟨_, rfl, ?_⟩; have n0_ := Aside0.mk (Kd.N_below (lN HO_7) hb); have n1_ := Aside0.mk (Kd.V_lower (Kd.V_mono (ok' := fun k_ => (w.heap.size ≤ k_) ∧ some k_ ≠ (u7 : Value).ownBlock ∧ k_ ≠ gb758 ∧ k_ ≠ gb759) ho0 (fun k_ hk_ => ⟨(Nat.le_trans (below_size (by repeat (first | (with_reducible first | exact HB.out | apply below_alloc | apply pw_below_drewN | apply below_drew1 | refine below_set ?_ GE758.out | refine below_set ?_ GE759.out) | exact HB.out))) hk_), (Kd.fresh' (Kd.N_lt (lN HO_7)) k_ hk_), (Kd.freshB (g := gb758) (o := .cells #[.bool false, .slice none 0 0] 39 (0, 0)) (lK BK758) k_ hk_), (Kd.freshB (g := gb759) (o := .cells #[.bool false, .slice none 0 0] 39 (0, 0)) (lK BK759) k_ hk_)⟩)) (below_size (by repeat (first | (with_reducible first | exact HB.out | apply below_alloc | apply pw_below_drewN | apply below_drew1 | refine below_set ?_ GE758.out | refine below_set ?_ GE759.out) | exact HB.out)))); have n2_ := Aside0.mk (blk_below (g := gb758) (o := .cells #[.bool false, .slice none 0 0] 39 (0, 0)) (lK BK758) hb); have n3_ := Aside0.mk (blk_below (g := gb759) (o := .cells #[.bool false, .slice none 0 0] 39 (0, 0)) (lK BK759) hb); have n4_ := Aside0.mk (below_step (by repeat (first | (with_reducible first | exact HB.out | apply below_alloc | apply pw_below_drewN | apply below_drew1 | refine below_set ?_ GE758.out | refine below_set ?_ GE759.out) | exact HB.out)) hb); clear HO_7; clear BK758; clear BK759; clear HB; have HO_7 := n0_; have HO787 := n1_; have BK758 := n2_; have BK759 := n3_; have HB := n4_; clear n0_ n1_ n2_ n3_ n4_; (try clear hb); (try clear hb2); (try clear hk); (try clear hi); (try clear ho0); obtain ⟨Ao49, co49, eo49⟩ := Kd.V_slice HO787.out; subst eo49) | ((with_reducible refine gate_builtin (b := .append) (xs := #[.tmp 35, .tmp 40]) rfl ?_); at_builtin; refine Kd.N_append k39 (w0 := w) w.heap.size rfl (.tmp 35) (.tmp 40) 24 39 (.agg #[(.bool false), (.slice none 0 0)]) 32 rfl Tryd.underlying24 info39 rfl (by decide) (by omega) u7 x7_1 (⟨t784, t785⟩ : S39) [.bool t784, .slice Ao49 t785.length co49] (fun k_ => (w.heap.size ≤ k_) ∧ k_ ≠ gb758 ∧ k_ ≠ gb759) (fun k_ => ((fun k_ => (w.heap.size ≤ k_) ∧ k_ ≠ gb758 ∧ k_ ≠ gb759)) k_ ∧ some k_ ≠ (u7 : Value).ownBlock) rfl rfl ?aP (fun _ hk => hk) ?aF ?aO ?aB ?aS ?aL ?_; (case aP => exact (k39_mkF _ _ (⟨t784, t785⟩ : S39) (Kd.V_reads' (Kd.V_mono (ok' := (fun k_ => ((fun k_ => (w.heap.size ≤ k_) ∧ k_ ≠ gb758 ∧ k_ ≠ gb759)) k_ ∧ some k_ ≠ (u7 : Value).ownBlock)) (HO787.out) (fun k_ hk => ⟨⟨hk.1, ⟨hk.2.2.1, hk.2.2.2⟩⟩, hk.2.1⟩))).2.1 (Kd.V_F (Kd.V_mono (ok' := (fun k_ => ((fun k_ => (w.heap.size ≤ k_) ∧ k_ ≠ gb758 ∧ k_ ≠ gb759)) k_ ∧ some k_ ≠ (u7 : Value).ownBlock)) (HO787.out) (fun k_ hk => ⟨⟨hk.1, ⟨hk.2.2.1, hk.2.2.2⟩⟩, hk.2.1⟩))))); (case aB => exact (by repeat (first | (with_reducible first | exact HB.out | apply below_alloc | apply pw_below_drewN | apply below_drew1 | refine below_set ?_ GE758.out | refine below_set ?_ GE759.out) | exact HB.out))); (case aF => exact (fun k_ hk => ⟨(Nat.le_trans (below_size (by repeat (first | (with_reducible first | exact HB.out | apply below_alloc | apply pw_below_drewN | apply below_drew1 | refine below_set ?_ GE758.out | refine below_set ?_ GE759.out) | exact HB.out))) hk), Kd.freshB (g := gb758) (o := .cells #[.bool false, .slice none 0 0] 39 (0, 0)) (lK BK758) k_ hk, Kd.freshB (g := gb759) (o := .cells #[.bool false, .slice none 0 0] 39 (0, 0)) (lK BK759) k_ hk⟩)); (case aO => exact (by (with_reducible repeat (first | apply Kd.N_alloc | apply Kd.N_drewN | apply Kd.N_drew)); exact Kd.N_mono HO_7.out (fun _ hk => ⟨hk.1.1, ⟨hk.1.2, hk.2⟩⟩))); (case aS => exact (below_size (by repeat (first | (with_reducible first | exact HB.out | apply below_alloc | apply pw_below_drewN | apply below_drew1 | refine below_set ?_ GE758.out | refine below_set ?_ GE759.out) | exact HB.out)))); (case aL => have := LMc41.out; omega); intro v789 w48 ho hb hg hat; rw [← Ny788.out] at ho; have n0_ := Aside0.mk (blk_grown (g := gb758) (o := .cells #[.bool false, .slice none 0 0] 39 (0, 0)) (lK BK758) hg (Kd.N_away HO_7.out (fun _ hk => hk.1.2))); have n1_ := Aside0.mk (blk_grown (g := gb759) (o := .cells #[.bool false, .slice none 0 0] 39 (0, 0)) (lK BK759) hg (Kd.N_away HO_7.out (fun _ hk => hk.2))); have n2_ := Aside0.mk (Kd.V_afterv (ok := (fun k_ => (w.heap.size ≤ k_) ∧ k_ ≠ gb758 ∧ k_ ≠ gb759)) (by (with_reducible repeat (first | apply Kd.V_alloc | apply Kd.V_drewN | apply Kd.V_drew)); exact Kd.V_mono HO787.out (fun _ hk => ⟨⟨hk.1, ⟨hk.2.2.1, hk.2.2.2⟩⟩, hk.2.1⟩)) hg hat); have n3_ := Aside0.mk (hb); have n4_ := Aside0.mk (ho); clear BK758; clear BK759; clear HO787 HB HO_7; have BK758 := n0_; have BK759 := n1_; have HO787 := n2_; have HB := n3_; have HO790 := n4_; clear n0_ n1_ n2_ n3_ n4_; clear ho hb hg hat))
       go_roundg k1
       case measure => have := HK1.out; omega
       case rel => exact ⟨(y788), (wrap64 (x16_1 + 1)), (by first | rfl | (simp; done) | (simp [*]; done)), H', ⟨by have := HK1.out; omega⟩, ⟨by (with_reducible repeat (first | apply Kd.N_alloc | apply Kd.N_drewN | apply Kd.N_drew)); exact Kd.N_mono HO790.out (fun _ hk => hk.1)⟩, ⟨by repeat (first | (with_reducible first | exact HB.out | apply below_alloc | apply pw_below_drewN | apply below_drew1 | refine below_set ?_ GE758.out | refine below_set ?_ GE759.out) | exact HB.out)⟩⟩
      ·rw [if_neg c41] at H
       exact absurd H (by simp)
   ·rw [if_neg c4] at H
    have c4b0 : decide (x16_1 < ji3) = false := decide_eq_false c4
    clear c4
    obtain rfl := Option.some.inj H
    go_wp2
    go_ret
    exact ⟨_, by first | rfl | (simp [errW_none, errW_some] <;> rfl) | (simp only [← hji3]; first | rfl | (simp [errW_none, errW_some] <;> rfl)) | (simp [*, errW_none, errW_some] <;> rfl), by (with_reducible repeat (first | apply Kd.N_alloc | apply Kd.N_drewN | apply Kd.N_drew)); exact HO_7.out, by repeat (first | (with_reducible first | exact HB.out | apply below_alloc | apply pw_below_drewN | apply below_drew1) | exact HB.out)⟩

/-! ### poly_Add: function 29 -/
def poly_Add.f (k : Nat) (l0 : List (S39)) (l1 : List (S39)) : Option ((List (S39))) := (poly_placed.f k l0 l1).bind fun t791 => (some t791)
set_option maxHeartbeats 8000000 in
set_option maxRecDepth 100000 in
theorem poly_Add.calls (k : Nat) (A0 : Option Addr) (c0 : Nat) (l0 : List (S39)) (A1 : Option Addr) (c1 : Nat) (l1 : List (S39)) (r : List (S39)) (w : World) (hr0 : Kd.C k39 w A0 l0.length l0) (hc0 : l0.length ≤ c0) (hr1 : Kd.C k39 w A1 l1.length l1) (hc1 : l1.length ≤ c1) (h : poly_Add.f k l0 l1 = some r) :
  Calls Tryd.prog 29 #[.slice A0 l0.length c0, .slice A1 l1.length c1] w fun e w' => ∃ v0_ : Value, e = .returned (v0_) ∧ Kd.N k39 39 w' w.heap.size (fun k_ => (w.heap.size ≤ k_)) v0_ r ∧ Below w.heap.size w w' := by
 have HR0 := Aside0.mk hr0
 have HC0 := Aside0.mk hc0
 clear hr0 hc0
 have HR1 := Aside0.mk hr1
 have HC1 := Aside0.mk hc1
 clear hr1 hc1
 have HB := Aside0.mk (Below.refl w.heap.size w)
 have H : ((poly_placed.f k l0 l1).bind fun t791 => (some t791)) = some r := h
 clear h
 replace H := Option.bind_eq_some_iff.mp H
 obtain ⟨t791, A30, H⟩ := H
 replace H : (some t791) = some r := H
 have A3 := Aside0.mk A30
 clear A30
 obtain rfl := Option.some.inj H
 go_enter Tryd.func29, Tryd.ntmps29
 go_wp2_with (first | ((with_reducible refine gate_callee (f := 47) rfl ?_); refine goesL_ (some 7) rfl rfl Tryd.func47 (by kernel_rfl) rfl #[.slice A0 l0.length c0, .slice A1 l1.length c1, .func (.func 36) #[] #[]] rfl (by (try simp only [List.map_toArray, List.map_cons, List.map_nil]); first | done | rfl | (simp only [List.length_drop, List.length_take]; rfl)) ?_; (with_reducible refine (poly_placed.calls k _ _ l0 _ _ l1 t791 _ ?side1 ?side2 ?side3 ?side4 A3.out).mono ?_); (case side1 => repeat (first | exact HR0.out | (with_reducible refine Kd.C_alloc ?_ _) | (with_reducible refine Kd.C_drewN ?_ _) | (with_reducible refine Kd.C_drew ?_))); (case side2 => exact HC0.out); (case side3 => repeat (first | exact HR1.out | (with_reducible refine Kd.C_alloc ?_ _) | (with_reducible refine Kd.C_drewN ?_ _) | (with_reducible refine Kd.C_drew ?_))); (case side4 => exact HC1.out); rintro e w4 ⟨v792, rfl, ho0, hb⟩; refine ⟨_, rfl, ?_⟩; have n0_ := Aside0.mk (Kd.N_lower (Kd.N_mono (ok' := fun k_ => (w.heap.size ≤ k_)) ho0 (fun k_ hk_ => (Nat.le_trans (below_size (lB HB)) hk_))) (below_size (lB HB))); have n1_ := Aside0.mk (below_step (lB HB) hb); clear HB; have HO793 := n0_; have HB := n1_; clear n0_ n1_; (try clear hb); (try clear hb2); (try clear hk); (try clear hi); (try clear ho0)))
 go_ret
 exact ⟨_, by first | rfl | (simp [errW_none, errW_some] <;> rfl) | (simp [*, errW_none, errW_some] <;> rfl), by (with_reducible repeat (first | apply Kd.N_alloc | apply Kd.N_drewN | apply Kd.N_drew)); exact HO793.out, by repeat (first | (with_reducible first | exact HB.out | apply below_alloc | apply pw_below_drewN | apply below_drew1) | exact HB.out)⟩

end Go.Proofs.YtakmkhokbcjapaaDoor.XA
end
