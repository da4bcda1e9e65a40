/- Part 5 of the proof of the law ProgJoins for every input: words, walks and plain laws. No condition. -/
import Derived.DataReads
import Derived.ChangeArms
import Derived.SizedLaws
import Derived.WideShapes
import Derived.ChangeSlices
import Derived.Test.YtkknkdmdglncoaaDoorKProgJoins4
section
namespace Go.Proofs.YtkknkdmdglncoaaDoor.XA
open Go.RowKit Go.Proofs.YtkknkdmdglncoaaDoorW.PrintWords Go.Proofs.YtkknkdmdglncoaaDoorW.PrintLast Go.Proofs.YtkknkdmdglncoaaDoorW.PrintMore
attribute [local go_sem] max2_int min2_int max_two min_two max_three min_three max_four min_four   -- for this text's walks alone
set_option linter.unusedVariables false
set_option linter.unusedSimpArgs false

/-! ### prog_Depth: function 25 -/
mutual
def prog_Depth.l0 : Nat → List Int → List (S37) → Int → Int → Int → Int → List (S37) → List Int → Option (Int × Int)
  | 0, _, _, _, _, _, _, _, _ => none
  | k + 1, x4, x20, x21, x22, x309000, x309001, x309002, x309003 => if x22 < x21 then (if 0 ≤ x22 then (if x22 < (x20.length : Int) then ((prog_Asks.f k ((rd_T37 x20 x22).f0) ((rd_T37 x20 x22).f1) ((rd_T37 x20 x22).f2) ((rd_T37 x20 x22).f3) ((rd_T37 x20 x22).f4)).bind fun t315 => (prog_Depth.l1 k x4 0 x20 x21 x22 t315 (t315.length : Int) 0 x309000 x309001 x309002 x309003 ((rd_T37 x20 x22).f0) ((rd_T37 x20 x22).f1) ((rd_T37 x20 x22).f2) ((rd_T37 x20 x22).f3) ((rd_T37 x20 x22).f4))) else (none)) else (none)) else (prog_Depth.l2 k x4 0 x309003 (x309003.length : Int) 0)
def prog_Depth.l1 : Nat → List Int → Int → List (S37) → Int → Int → List Int → Int → Int → Int → Int → List (S37) → List Int → Int → Int → Int → Int → Int → Option (Int × Int)
  | 0, _, _, _, _, _, _, _, _, _, _, _, _, _, _, _, _, _ => none
  | k + 1, x4, x7, x20, x21, x22, x27, x28, x29, x309000, x309001, x309002, x309003, x315000, x315001, x315002, x315003, x315004 => if x29 < x28 then (if 0 ≤ x29 then (if x29 < (x27.length : Int) then (if 0 ≤ (rd x27 x29) then (if (rd x27 x29) < (x4.length : Int) then (prog_Depth.l1 k x4 (mx x7 (rd x4 (rd x27 x29))) x20 x21 x22 x27 x28 (wrap64 (x29 + 1)) x309000 x309001 x309002 x309003 x315000 x315001 x315002 x315003 x315004) else (none)) else (none)) else (none)) else (none)) else (if 0 ≤ x315001 then (if x315001 < (x4.length : Int) then (prog_Depth.l0 k (x4.set (x315001 : Int).toNat (wrap64 (x7 + 1))) x20 x21 (wrap64 (x22 + 1)) x309000 x309001 x309002 x309003) else (none)) else (none))
def prog_Depth.l2 : Nat → List Int → Int → List Int → Int → Int → Option (Int × Int)
  | 0, _, _, _, _, _ => none
  | k + 1, x4, x10, x48, x49, x50 => if x50 < x49 then (if 0 ≤ x50 then (if x50 < (x48.length : Int) then (if 0 ≤ (rd x48 x50) then (if (rd x48 x50) < (x4.length : Int) then (prog_Depth.l2 k x4 (mx x10 (rd x4 (rd x48 x50))) x48 x49 (wrap64 (x50 + 1))) else (none)) else (none)) else (none)) else (none)) else (some (x10, 0))
end
def prog_Depth.f (k : Nat) (a0_0 : Int) (a0_1 : Int) (l0_2 : List (S37)) (l0_3 : List Int) : Option (Int × Int) := (prog_right.f k a0_0 a0_1 l0_2 l0_3).bind fun t309 => (if t309 = true then (if 0 ≤ a0_1 then (if (a0_1 : Int).toNat ≤ 35184372088832 then (prog_Depth.l0 k (List.replicate (a0_1 : Int).toNat 0) l0_2 (l0_2.length : Int) 0 a0_0 a0_1 l0_2 l0_3) else (none)) else (none)) else (some (0, 80)))
theorem prog_Depth.mono_l : ∀ k, (∀ y0 y1 y2 y3 y4 y5 y6 y7, LeO (prog_Depth.l0 k y0 y1 y2 y3 y4 y5 y6 y7) (prog_Depth.l0 (k + 1) y0 y1 y2 y3 y4 y5 y6 y7)) ∧ (∀ y0 y1 y2 y3 y4 y5 y6 y7 y8 y9 y10 y11 y12 y13 y14 y15 y16, LeO (prog_Depth.l1 k y0 y1 y2 y3 y4 y5 y6 y7 y8 y9 y10 y11 y12 y13 y14 y15 y16) (prog_Depth.l1 (k + 1) y0 y1 y2 y3 y4 y5 y6 y7 y8 y9 y10 y11 y12 y13 y14 y15 y16)) ∧ (∀ y0 y1 y2 y3 y4, LeO (prog_Depth.l2 k y0 y1 y2 y3 y4) (prog_Depth.l2 (k + 1) y0 y1 y2 y3 y4))
  | 0 => ⟨fun _ _ _ _ _ _ _ _ r h => by simp [prog_Depth.l0] at h, fun _ _ _ _ _ _ _ _ _ _ _ _ _ _ _ _ _ r h => by simp [prog_Depth.l1] at h, fun _ _ _ _ _ r h => by simp [prog_Depth.l2] at h⟩
  | k + 1 => by
    obtain ⟨ih0, ih1, ih2⟩ := prog_Depth.mono_l k
    refine ⟨?_, ?_, ?_⟩
    · intro y0 y1 y2 y3 y4 y5 y6 y7
      unfold prog_Depth.l0
      repeat' first
      | (with_reducible exact ih0 _ _ _ _ _ _ _ _)
      | (with_reducible exact ih1 _ _ _ _ _ _ _ _ _ _ _ _ _ _ _ _ _)
      | (with_reducible exact ih2 _ _ _ _ _)
      | (with_reducible exact prog_Asks.mono _ _ _ _ _ _)
      | (with_reducible exact prog_right.mono _ _ _ _ _)
      | (with_reducible exact LeO.refl _)
      | (with_reducible exact LeO.none _)
      | (with_reducible refine LeO.ite ?_ ?_)
      | (with_reducible refine LeO.bind ?_ (fun _ => ?_))
      | exact ih0 _ _ _ _ _ _ _ _
      | exact ih1 _ _ _ _ _ _ _ _ _ _ _ _ _ _ _ _ _
      | exact ih2 _ _ _ _ _
      | exact prog_Asks.mono _ _ _ _ _ _
      | exact prog_right.mono _ _ _ _ _
      | exact LeO.none _
      | refine LeO.ite ?_ ?_
      | refine LeO.bind ?_ (fun _ => ?_)
    · intro y0 y1 y2 y3 y4 y5 y6 y7 y8 y9 y10 y11 y12 y13 y14 y15 y16
      unfold prog_Depth.l1
      repeat' first
      | (with_reducible exact ih0 _ _ _ _ _ _ _ _)
      | (with_reducible exact ih1 _ _ _ _ _ _ _ _ _ _ _ _ _ _ _ _ _)
      | (with_reducible exact ih2 _ _ _ _ _)
      | (with_reducible exact prog_Asks.mono _ _ _ _ _ _)
      | (with_reducible exact prog_right.mono _ _ _ _ _)
      | (with_reducible exact LeO.refl _)
      | (with_reducible exact LeO.none _)
      | (with_reducible refine LeO.ite ?_ ?_)
      | (with_reducible refine LeO.bind ?_ (fun _ => ?_))
      | exact ih0 _ _ _ _ _ _ _ _
      | exact ih1 _ _ _ _ _ _ _ _ _ _ _ _ _ _ _ _ _
      | exact ih2 _ _ _ _ _
      | exact prog_Asks.mono _ _ _ _ _ _
      | exact prog_right.mono _ _ _ _ _
      | exact LeO.none _
      | refine LeO.ite ?_ ?_
      | refine LeO.bind ?_ (fun _ => ?_)
    · intro y0 y1 y2 y3 y4
      unfold prog_Depth.l2
      repeat' first
      | (with_reducible exact ih0 _ _ _ _ _ _ _ _)
      | (with_reducible exact ih1 _ _ _ _ _ _ _ _ _ _ _ _ _ _ _ _ _)
      | (with_reducible exact ih2 _ _ _ _ _)
      | (with_reducible exact prog_Asks.mono _ _ _ _ _ _)
      | (with_reducible exact prog_right.mono _ _ _ _ _)
      | (with_reducible exact LeO.refl _)
      | (with_reducible exact LeO.none _)
      | (with_reducible refine LeO.ite ?_ ?_)
      | (with_reducible refine LeO.bind ?_ (fun _ => ?_))
      | exact ih0 _ _ _ _ _ _ _ _
      | exact ih1 _ _ _ _ _ _ _ _ _ _ _ _ _ _ _ _ _
      | exact ih2 _ _ _ _ _
      | exact prog_Asks.mono _ _ _ _ _ _
      | exact prog_right.mono _ _ _ _ _
      | exact LeO.none _
      | refine LeO.ite ?_ ?_
      | refine LeO.bind ?_ (fun _ => ?_)
theorem prog_Depth.mono : ∀ a0 a1 a2 a3 k, LeO (prog_Depth.f k a0 a1 a2 a3) (prog_Depth.f (k + 1) a0 a1 a2 a3) := by
  intro a0 a1 a2 a3 k
  obtain ⟨ih0, ih1, ih2⟩ := prog_Depth.mono_l k
  unfold prog_Depth.f
  repeat' first
      | (with_reducible exact ih0 _ _ _ _ _ _ _ _)
      | (with_reducible exact ih1 _ _ _ _ _ _ _ _ _ _ _ _ _ _ _ _ _)
      | (with_reducible exact ih2 _ _ _ _ _)
      | (with_reducible exact prog_Asks.mono _ _ _ _ _ _)
      | (with_reducible exact prog_right.mono _ _ _ _ _)
      | (with_reducible exact LeO.refl _)
      | (with_reducible exact LeO.none _)
      | (with_reducible refine LeO.ite ?_ ?_)
      | (with_reducible refine LeO.bind ?_ (fun _ => ?_))
      | exact ih0 _ _ _ _ _ _ _ _
      | exact ih1 _ _ _ _ _ _ _ _ _ _ _ _ _ _ _ _ _
      | exact ih2 _ _ _ _ _
      | exact prog_Asks.mono _ _ _ _ _ _
      | exact prog_right.mono _ _ _ _ _
      | exact LeO.none _
      | refine LeO.ite ?_ ?_
      | refine LeO.bind ?_ (fun _ => ?_)
set_option maxHeartbeats 8000000 in
set_option maxRecDepth 100000 in
theorem prog_Depth.calls (k : Nat) (a0_0 : Int) (a0_1 : Int) (A0_2 : Option Addr) (c0_2 : Nat) (l0_2 : List (S37)) (A0_3 : Option Addr) (c0_3 : Nat) (l0_3 : List Int) (r1 : Int) (r2 : Int) (w : World) (hr0_2 : Kd.C k37 w A0_2 l0_2.length l0_2) (hc0_2 : l0_2.length ≤ c0_2) (hr0_3 : Kd.C (Kd.int .i64) w A0_3 l0_3.length l0_3) (hc0_3 : l0_3.length ≤ c0_3) (h : prog_Depth.f k a0_0 a0_1 l0_2 l0_3 = some (r1, r2)) :
    Calls Tryd.prog 25 #[.agg #[.int .i64 a0_0, .int .i64 a0_1, .slice A0_2 l0_2.length c0_2, .slice A0_3 l0_3.length c0_3]] w fun e w' => e = .returned (.tuple #[.int .i64 r1, .int .i64 r2]) ∧ Below w.heap.size w w' := by
  have hu25 := Tryd.underlying25
  have hu37 := Tryd.underlying37
  have HR0_2 := Aside0.mk hr0_2
  have HC0_2 := Aside0.mk hc0_2
  clear hr0_2 hc0_2
  have HR0_3 := Aside0.mk hr0_3
  have HC0_3 := Aside0.mk hc0_3
  clear hr0_3 hc0_3
  have HB := Aside0.mk (Below.refl w.heap.size w)
  have H : ((prog_right.f k a0_0 a0_1 l0_2 l0_3).bind fun t309 => (if t309 = true then (if 0 ≤ a0_1 then (if (a0_1 : Int).toNat ≤ 35184372088832 then (prog_Depth.l0 k (List.replicate (a0_1 : Int).toNat 0) l0_2 (l0_2.length : Int) 0 a0_0 a0_1 l0_2 l0_3) else (none)) else (none)) else (some (0, 80)))) = some (r1, r2) := h
  clear h
  replace H := Option.bind_eq_some_iff.mp H
  obtain ⟨t309, A20, H⟩ := H
  replace H : (if t309 = true then (if 0 ≤ a0_1 then (if (a0_1 : Int).toNat ≤ 35184372088832 then (prog_Depth.l0 k (List.replicate (a0_1 : Int).toNat 0) l0_2 (l0_2.length : Int) 0 a0_0 a0_1 l0_2 l0_3) else (none)) else (none)) else (some (0, 80))) = some (r1, r2) := H
  have A2 := Aside0.mk A20
  clear A20
  by_cases c3 : t309 = true
  · subst c3
    have H1 : (if 0 ≤ a0_1 then (if (a0_1 : Int).toNat ≤ 35184372088832 then (prog_Depth.l0 k (List.replicate (a0_1 : Int).toNat 0) l0_2 (l0_2.length : Int) 0 a0_0 a0_1 l0_2 l0_3) else (none)) else (none)) = some (r1, r2) := by rw [if_pos rfl] at H; exact H
    clear H
    have H := H1
    clear H1
    by_cases c4 : 0 ≤ a0_1
    · rw [if_pos c4] at H
      have c4b0 := eq_true c4
      have c4b1 : decide (0 ≤ a0_1) = true := decide_eq_true c4
      clear c4
      by_cases c5 : (a0_1 : Int).toNat ≤ 35184372088832
      · rw [if_pos c5] at H
        have c5b0 := eq_true c5
        have c5b1 : decide ((a0_1 : Int).toNat ≤ 35184372088832) = true := decide_eq_true c5
        clear c5
        obtain ⟨y310, hy310⟩ : ∃ y_ : List Int, y_ = (List.replicate (a0_1 : Int).toNat 0) := ⟨_, rfl⟩
        replace H : (prog_Depth.l0 k y310 l0_2 (l0_2.length : Int) 0 a0_0 a0_1 l0_2 l0_3) = some (r1, r2) := by first | (rw [hy310]; with_reducible exact H) | (have H2_ := (Option.bind_some _ _).symm.trans H; rw [hy310]; with_reducible exact H2_) | (have H2_ := (Option.bind_some _ _).symm.trans H; with_reducible exact H2_) | with_reducible exact H | (rw [hy310]; exact H) | exact H
        have Ny310 := Aside0.mk hy310
        clear hy310
        have H' := Aside0.mk H
        clear H
        go_enter Tryd.func25, Tryd.ntmps25
        go_wp2_with (first | ((with_reducible refine gate_dst (N := 1) rfl ?_); refine box_event ?hg (N := 1) ?hd (cs := #[.int .i64 a0_0, .int .i64 a0_1, .slice A0_2 l0_2.length c0_2, .slice A0_3 l0_3.length c0_3]) (t := 25) ?hr ?_; (case hd => rfl); (case hg => rfl); (case hr => first | (go_simp; done) | (go_simp; rfl)); intro gb308 hg w6 hbox hb; have n0_ := Aside0.mk (below_step (by repeat (first | (with_reducible first | exact HB.out | apply below_alloc | apply pw_below_drewN | apply below_drew1) | exact HB.out)) hb); have n1_ := Aside0.mk (hbox); have n2_ := Aside0.mk ((by rw [hg]; exact (below_size (by repeat (first | (with_reducible first | exact HB.out | apply below_alloc | apply pw_below_drewN | apply below_drew1) | exact HB.out))) : w.heap.size ≤ gb308)); have n3_ := Aside0.mk ((by rw [hg]; exact (below_size (by repeat (first | (with_reducible first | exact HB.out | apply below_alloc | apply pw_below_drewN | apply below_drew1) | exact HB.out))) : w.heap.size ≤ gb308)); clear HB; have HB := n0_; have BK308 := n1_; have GW308 := n2_; have GE308 := n3_; clear n0_ n1_ n2_ n3_; clear hb hbox hg; have hcz7_0 : w6.cell? ⟨gb308, 0, none⟩ = some (.int .i64 a0_0) := (blk_cell BK308.out 0).trans rfl; have hcz7_1 : w6.cell? ⟨gb308, 1, none⟩ = some (.int .i64 a0_1) := (blk_cell BK308.out 1).trans rfl; have hcz7_2 : w6.cell? ⟨gb308, 2, none⟩ = some (.slice A0_2 l0_2.length c0_2) := (blk_cell BK308.out 2).trans rfl; have hcz7_3 : w6.cell? ⟨gb308, 3, none⟩ = some (.slice A0_3 l0_3.length c0_3) := (blk_cell BK308.out 3).trans rfl; have hfz7_0 := blk_frozen BK308.out 0; have hfz7_1 := blk_frozen BK308.out 1; have hfz7_2 := blk_frozen BK308.out 2; have hfz7_3 := blk_frozen BK308.out 3) | ((with_reducible refine gate_callee (f := 37) rfl ?_); refine goesL_ (some 14) rfl rfl Tryd.func37 (by kernel_rfl) rfl #[.agg #[.int .i64 a0_0, .int .i64 a0_1, .slice A0_2 l0_2.length c0_2, .slice A0_3 l0_3.length c0_3]] rfl (by (try simp only [List.map_toArray, List.map_cons, List.map_nil]); first | done | rfl | (simp only [List.length_drop, List.length_take]; rfl)) ?_; (with_reducible refine (prog_right.calls k a0_0 a0_1 _ _ l0_2 _ _ l0_3 true _ ?side1 ?side2 ?side3 ?side4 A2.out).mono ?_); (case side1 => repeat (first | exact (Kd.C_below HR0_2.out HB.out) | (with_reducible refine Kd.C_alloc ?_ _) | (with_reducible refine Kd.C_drewN ?_ _) | (with_reducible refine Kd.C_drew ?_))); (case side2 => exact HC0_2.out); (case side3 => repeat (first | exact (Kd.C_below HR0_3.out HB.out) | (with_reducible refine Kd.C_alloc ?_ _) | (with_reducible refine Kd.C_drewN ?_ _) | (with_reducible refine Kd.C_drew ?_))); (case side4 => exact HC0_3.out); rintro e w8 ⟨rfl, hb⟩; refine ⟨_, rfl, ?_⟩; have n0_ := Aside0.mk (blk_below (g := gb308) (o := .cells #[.int .i64 a0_0, .int .i64 a0_1, .slice A0_2 l0_2.length c0_2, .slice A0_3 l0_3.length c0_3] 25 (0, 0)) (by (with_reducible repeat (first | refine blk_drewN ?_ _ | refine blk_drew ?_ | refine blk_alloc ?_ _)); exact BK308.out) hb); have n1_ := Aside0.mk (below_step (by repeat (first | (with_reducible first | exact HB.out | apply below_alloc | apply pw_below_drewN | apply below_drew1 | refine below_set ?_ GE308.out) | exact HB.out)) hb); clear BK308; clear HB; have BK308 := n0_; have HB := n1_; clear n0_ n1_; (try clear hb); (try clear hb2); (try clear hk); (try clear hi); have hcz9_0 : w8.cell? ⟨gb308, 0, none⟩ = some (.int .i64 a0_0) := (blk_cell BK308.out 0).trans rfl; have hcz9_1 : w8.cell? ⟨gb308, 1, none⟩ = some (.int .i64 a0_1) := (blk_cell BK308.out 1).trans rfl; have hcz9_2 : w8.cell? ⟨gb308, 2, none⟩ = some (.slice A0_2 l0_2.length c0_2) := (blk_cell BK308.out 2).trans rfl; have hcz9_3 : w8.cell? ⟨gb308, 3, none⟩ = some (.slice A0_3 l0_3.length c0_3) := (blk_cell BK308.out 3).trans rfl; have hfz9_0 := blk_frozen BK308.out 0; have hfz9_1 := blk_frozen BK308.out 1; have hfz9_2 := blk_frozen BK308.out 2; have hfz9_3 := blk_frozen BK308.out 3) | ((with_reducible refine gate_dst (N := 18) rfl ?_); refine Kd.R_make (Kd.int .i64) _ 3 rfl (N := 18) rfl 23 _ _ rfl a0_1 rfl rfl Tryd.underlying23 (.int .i64 0) 8 info3 rfl (by decide) (by omega) 0 (ok := fun _ => True) (okp := fun _ => True) rfl (fun _ hk => hk) trivial (of_decide_eq_true (by first | (with_reducible assumption) | assumption)) (Nat.le_trans (Nat.mul_le_mul_right _ (of_decide_eq_true (by first | (with_reducible assumption) | assumption) : a0_1.toNat ≤ 35184372088832)) (by omega)) (Below.refl _ _) (Nat.le_refl _) ?_; intro v311 w10 ho11 hb hg_ hnew_; clear hg_ hnew_; (first | rw [← Ny310.out] at ho11 | (simp only [Int.reduceToNat] at ho11; rw [← Ny310.out] at ho11)); have n0_ := Aside0.mk (Kd.R_lower ho11 (below_size (by repeat (first | (with_reducible first | exact HB.out | apply below_alloc | apply pw_below_drewN | apply below_drew1 | refine below_set ?_ GE308.out) | exact HB.out)))); have n1_ := Aside0.mk (blk_below (g := gb308) (o := .cells #[.int .i64 a0_0, .int .i64 a0_1, .slice A0_2 l0_2.length c0_2, .slice A0_3 l0_3.length c0_3] 25 (0, 0)) (by (with_reducible repeat (first | refine blk_drewN ?_ _ | refine blk_drew ?_ | refine blk_alloc ?_ _)); exact BK308.out) hb); have n2_ := Aside0.mk (below_step (by repeat (first | (with_reducible first | exact HB.out | apply below_alloc | apply pw_below_drewN | apply below_drew1 | refine below_set ?_ GE308.out) | exact HB.out)) hb); clear BK308; clear HB; have HO312 := n0_; have BK308 := n1_; have HB := n2_; clear n0_ n1_ n2_; clear hb ho11; have hcz12_0 : w10.cell? ⟨gb308, 0, none⟩ = some (.int .i64 a0_0) := (blk_cell BK308.out 0).trans rfl; have hcz12_1 : w10.cell? ⟨gb308, 1, none⟩ = some (.int .i64 a0_1) := (blk_cell BK308.out 1).trans rfl; have hcz12_2 : w10.cell? ⟨gb308, 2, none⟩ = some (.slice A0_2 l0_2.length c0_2) := (blk_cell BK308.out 2).trans rfl; have hcz12_3 : w10.cell? ⟨gb308, 3, none⟩ = some (.slice A0_3 l0_3.length c0_3) := (blk_cell BK308.out 3).trans rfl; have hfz12_0 := blk_frozen BK308.out 0; have hfz12_1 := blk_frozen BK308.out 1; have hfz12_2 := blk_frozen BK308.out 2; have hfz12_3 := blk_frozen BK308.out 3))
        go_loopg [22] k (fun kq v22 w' => ∃ (x4_1 : List Int) (x22_1 : Int), v22 = .int .i64 x22_1 ∧ Aside0 (prog_Depth.l0 kq x4_1 l0_2 (l0_2.length : Int) x22_1 a0_0 a0_1 l0_2 l0_3 = some (r1, r2)) ∧ Aside0 (kq ≤ k) ∧ Aside0 (Kd.R (Kd.int .i64) 3 w' w.heap.size (fun _ => True) v311 x4_1) ∧ Aside0 (w'.heap[gb308]? = some (.cells #[.int .i64 a0_0, .int .i64 a0_1, (.slice A0_2 l0_2.length c0_2), (.slice A0_3 l0_3.length c0_3)] 25 (0, 0))) ∧ Aside0 (Below w.heap.size w w'))
        case atStart => exact ⟨(y310), (0), (by first | rfl | (simp; done) | (simp [*]; done)), H', ⟨Nat.le_refl _⟩, ⟨by (with_reducible repeat (first | apply Kd.R_alloc | apply Kd.R_drewN | apply Kd.R_drew)); exact HO312.out⟩, ⟨by (with_reducible repeat (first | refine blk_drewN ?_ _ | refine blk_drew ?_ | refine blk_alloc ?_ _)); exact BK308.out⟩, ⟨by repeat (first | (with_reducible first | exact HB.out | apply below_alloc | apply pw_below_drewN | apply below_drew1 | refine below_set ?_ GE308.out) | exact HB.out)⟩⟩
        case round =>
          clear H'
          try clear c3
          try clear c4
          try clear c5
          obtain ⟨x4_1, x22_1, rfl, HA, HK1, HO_4, BK308, HB⟩ := hrel
          cases gk with
          | zero => exact absurd HA.out (by simp [prog_Depth.l0])
          | succ k1 =>
            have H := HA.out
            clear HA
            simp only [prog_Depth.l0] at H
            by_cases c13 : x22_1 < (l0_2.length : Int)
            · rw [if_pos c13] at H
              have c13b0 : decide (x22_1 < (l0_2.length : Int)) = true := decide_eq_true c13
              clear c13
              by_cases c14 : 0 ≤ x22_1
              · rw [if_pos c14] at H
                have c14b0 : decide (0 ≤ x22_1) = true := decide_eq_true c14
                clear c14
                by_cases c15 : x22_1 < (l0_2.length : Int)
                · rw [if_pos c15] at H
                  have c15b0 : decide (x22_1 < (l0_2.length : Int)) = true := decide_eq_true c15
                  clear c15
                  replace H := Option.bind_eq_some_iff.mp H
                  obtain ⟨t315, A160, H⟩ := H
                  replace H : (prog_Depth.l1 k1 x4_1 0 l0_2 (l0_2.length : Int) x22_1 t315 (t315.length : Int) 0 a0_0 a0_1 l0_2 l0_3 ((rd_T37 l0_2 x22_1).f0) ((rd_T37 l0_2 x22_1).f1) ((rd_T37 l0_2 x22_1).f2) ((rd_T37 l0_2 x22_1).f3) ((rd_T37 l0_2 x22_1).f4)) = some (r1, r2) := H
                  have A16 := Aside0.mk A160
                  clear A160
                  have H' := Aside0.mk H
                  clear H
                  have p313 : 0 ≤ (x22_1 : Int) := of_decide_eq_true (by first | (with_reducible assumption) | assumption)
                  have q313 : x22_1 < (l0_2.length : Int) := of_decide_eq_true (by first | (with_reducible assumption) | assumption)
                  obtain ⟨ad313, e313, hx313_0, hx313_1, hx313_2, hx313_3, hx313_4⟩ := at_T37 HR0_2.out x22_1 p313 q313
                  cases e313
                  replace hx313_0 := (HB.out.cell (World.block_lt_of_cell? w _ hx313_0)).trans hx313_0
                  replace hx313_1 := (HB.out.cell (World.block_lt_of_cell? w _ hx313_1)).trans hx313_1
                  replace hx313_2 := (HB.out.cell (World.block_lt_of_cell? w _ hx313_2)).trans hx313_2
                  replace hx313_3 := (HB.out.cell (World.block_lt_of_cell? w _ hx313_3)).trans hx313_3
                  replace hx313_4 := (HB.out.cell (World.block_lt_of_cell? w _ hx313_4)).trans hx313_4
                  replace p313 := eq_true p313
                  replace q313 := eq_true q313
                  go_wp2_with (first | ((with_reducible refine gate_dst (N := 6) rfl ?_); refine box_event ?hg (N := 6) ?hd (cs := #[.int .i64 0, .int .i64 0, .int .i64 0, .int .i64 0, .int .i64 0]) (t := 37) ?hr ?_; (case hd => rfl); (case hg => rfl); (case hr => first | (go_simp; done) | (go_simp; rfl)); intro gb314 hg w17 hbox hb; have n0_ := Aside0.mk (Kd.R_below (by (with_reducible repeat (first | apply Kd.R_alloc | apply Kd.R_drewN | apply Kd.R_drew)); exact HO_4.out) hb); have n1_ := Aside0.mk (blk_below (g := gb308) (o := .cells #[.int .i64 a0_0, .int .i64 a0_1, .slice (some ad313) l0_2.length c0_2, .slice A0_3 l0_3.length c0_3] 25 (0, 0)) (by (with_reducible repeat (first | refine blk_drewN ?_ _ | refine blk_drew ?_ | refine blk_alloc ?_ _)); exact BK308.out) hb); have n2_ := Aside0.mk (below_step (by repeat (first | (with_reducible first | exact HB.out | apply below_alloc | apply pw_below_drewN | apply below_drew1 | refine below_set ?_ GE308.out) | exact HB.out)) hb); have n3_ := Aside0.mk (hbox); have n4_ := Aside0.mk ((by rw [hg]; exact (below_size (by repeat (first | (with_reducible first | exact HB.out | apply below_alloc | apply pw_below_drewN | apply below_drew1 | refine below_set ?_ GE308.out) | exact HB.out))) : w.heap.size ≤ gb314)); have n5_ := Aside0.mk ((by rw [hg]; exact (below_size (by repeat (first | (with_reducible first | exact HB.out | apply below_alloc | apply pw_below_drewN | apply below_drew1 | refine below_set ?_ GE308.out) | exact HB.out))) : w.heap.size ≤ gb314)); have n6_ := Aside0.mk ((by rw [hg]; exact Nat.ne_of_lt (blk_lt (g := gb308) (o := .cells #[.int .i64 a0_0, .int .i64 a0_1, .slice (some ad313) l0_2.length c0_2, .slice A0_3 l0_3.length c0_3] 25 (0, 0)) (by (with_reducible repeat (first | refine blk_drewN ?_ _ | refine blk_drew ?_ | refine blk_alloc ?_ _)); exact BK308.out)) : gb308 ≠ gb314)); have n7_ := Aside0.mk ((by rw [hg]; exact Nat.ne_of_gt (blk_lt (g := gb308) (o := .cells #[.int .i64 a0_0, .int .i64 a0_1, .slice (some ad313) l0_2.length c0_2, .slice A0_3 l0_3.length c0_3] 25 (0, 0)) (by (with_reducible repeat (first | refine blk_drewN ?_ _ | refine blk_drew ?_ | refine blk_alloc ?_ _)); exact BK308.out)) : gb314 ≠ gb308)); clear HO_4; clear BK308; clear HB; have HO_4 := n0_; have BK308 := n1_; have HB := n2_; have BK314 := n3_; have GW314 := n4_; have GE314 := n5_; have NB308_314 := n6_; have NB314_308 := n7_; clear n0_ n1_ n2_ n3_ n4_ n5_ n6_ n7_; clear hb hbox hg; have hnb18 := NB314_308.out; have hnc18 := NB308_314.out; have hcz19_0 : w17.cell? ⟨gb314, 0, none⟩ = some (.int .i64 0) := (blk_cell BK314.out 0).trans rfl; have hcz19_1 : w17.cell? ⟨gb314, 1, none⟩ = some (.int .i64 0) := (blk_cell BK314.out 1).trans rfl; have hcz19_2 : w17.cell? ⟨gb314, 2, none⟩ = some (.int .i64 0) := (blk_cell BK314.out 2).trans rfl; have hcz19_3 : w17.cell? ⟨gb314, 3, none⟩ = some (.int .i64 0) := (blk_cell BK314.out 3).trans rfl; have hcz19_4 : w17.cell? ⟨gb314, 4, none⟩ = some (.int .i64 0) := (blk_cell BK314.out 4).trans rfl; have hfz19_0 := blk_frozen BK314.out 0; have hfz19_1 := blk_frozen BK314.out 1; have hfz19_2 := blk_frozen BK314.out 2; have hfz19_3 := blk_frozen BK314.out 3; have hfz19_4 := blk_frozen BK314.out 4) | ((with_reducible refine gate_callee (f := 18) rfl ?_); refine goesL_ (some 27) rfl rfl Tryd.func18 (by kernel_rfl) rfl #[.agg #[.int .i64 ((rd_T37 l0_2 x22_1).f0), .int .i64 ((rd_T37 l0_2 x22_1).f1), .int .i64 ((rd_T37 l0_2 x22_1).f2), .int .i64 ((rd_T37 l0_2 x22_1).f3), .int .i64 ((rd_T37 l0_2 x22_1).f4)]] rfl (by (try simp only [List.map_toArray, List.map_cons, List.map_nil]); first | done | rfl | (simp only [List.length_drop, List.length_take]; rfl)) ?_; (with_reducible refine (prog_Asks.calls k1 ((rd_T37 l0_2 x22_1).f0) ((rd_T37 l0_2 x22_1).f1) ((rd_T37 l0_2 x22_1).f2) ((rd_T37 l0_2 x22_1).f3) ((rd_T37 l0_2 x22_1).f4) t315 _ A16.out).mono ?_); rintro e w20 ⟨v316, rfl, ho0, hb⟩; refine ⟨_, rfl, ?_⟩; have n0_ := Aside0.mk (Kd.R_elder' (by (with_reducible repeat (first | apply Kd.R_alloc | apply Kd.R_drewN | apply Kd.R_drew)); exact (Kd.R_mono (Kd.R_far (p := ⟨gb314, 4, none⟩) (Kd.R_far (p := ⟨gb314, 3, none⟩) (Kd.R_far (p := ⟨gb314, 2, none⟩) (Kd.R_far (p := ⟨gb314, 1, none⟩) (Kd.R_far (p := ⟨gb314, 0, none⟩) (Kd.R_types HO_4.out BK314.out (by decide)) (fun _ hk => hk.2) (.int .i64 ((rd_T37 l0_2 x22_1).f0))) (fun _ hk => hk.2) (.int .i64 ((rd_T37 l0_2 x22_1).f1))) (fun _ hk => hk.2) (.int .i64 ((rd_T37 l0_2 x22_1).f2))) (fun _ hk => hk.2) (.int .i64 ((rd_T37 l0_2 x22_1).f3))) (fun _ hk => hk.2) (.int .i64 ((rd_T37 l0_2 x22_1).f4))) (fun _ h_ => h_.1))) (Kd.R_base ho0) hb); have n1_ := Aside0.mk (Kd.R_lower (Kd.R_new' ho0 (Kd.R_lt (by (with_reducible repeat (first | apply Kd.R_alloc | apply Kd.R_drewN | apply Kd.R_drew)); exact (Kd.R_mono (Kd.R_far (p := ⟨gb314, 4, none⟩) (Kd.R_far (p := ⟨gb314, 3, none⟩) (Kd.R_far (p := ⟨gb314, 2, none⟩) (Kd.R_far (p := ⟨gb314, 1, none⟩) (Kd.R_far (p := ⟨gb314, 0, none⟩) (Kd.R_types HO_4.out BK314.out (by decide)) (fun _ hk => hk.2) (.int .i64 ((rd_T37 l0_2 x22_1).f0))) (fun _ hk => hk.2) (.int .i64 ((rd_T37 l0_2 x22_1).f1))) (fun _ hk => hk.2) (.int .i64 ((rd_T37 l0_2 x22_1).f2))) (fun _ hk => hk.2) (.int .i64 ((rd_T37 l0_2 x22_1).f3))) (fun _ hk => hk.2) (.int .i64 ((rd_T37 l0_2 x22_1).f4))) (fun _ h_ => h_.1))))) (below_size (by repeat (first | (with_reducible first | exact HB.out | apply below_alloc | apply pw_below_drewN | apply below_drew1 | refine below_set ?_ GE308.out | refine below_set ?_ GE314.out) | exact HB.out)))); have n2_ := Aside0.mk (blk_below (g := gb308) (o := .cells #[.int .i64 a0_0, .int .i64 a0_1, .slice (some ad313) l0_2.length c0_2, .slice A0_3 l0_3.length c0_3] 25 (0, 0)) (by (with_reducible repeat (first | refine blk_drewN ?_ _ | refine blk_drew ?_ | refine blk_alloc ?_ _)); refine blk_far ?_ NB308_314.out _; (with_reducible repeat (first | refine blk_drewN ?_ _ | refine blk_drew ?_ | refine blk_alloc ?_ _)); refine blk_far ?_ NB308_314.out _; (with_reducible repeat (first | refine blk_drewN ?_ _ | refine blk_drew ?_ | refine blk_alloc ?_ _)); refine blk_far ?_ NB308_314.out _; (with_reducible repeat (first | refine blk_drewN ?_ _ | refine blk_drew ?_ | refine blk_alloc ?_ _)); refine blk_far ?_ NB308_314.out _; (with_reducible repeat (first | refine blk_drewN ?_ _ | refine blk_drew ?_ | refine blk_alloc ?_ _)); refine blk_far ?_ NB308_314.out _; (with_reducible repeat (first | refine blk_drewN ?_ _ | refine blk_drew ?_ | refine blk_alloc ?_ _)); exact BK308.out) hb); have n3_ := Aside0.mk (blk_below (g := gb314) (o := .cells #[.int .i64 ((rd_T37 l0_2 x22_1).f0), .int .i64 ((rd_T37 l0_2 x22_1).f1), .int .i64 ((rd_T37 l0_2 x22_1).f2), .int .i64 ((rd_T37 l0_2 x22_1).f3), .int .i64 ((rd_T37 l0_2 x22_1).f4)] 37 (0, 0)) (by (with_reducible repeat (first | refine blk_drewN ?_ _ | refine blk_drew ?_ | refine blk_alloc ?_ _)); refine blk_put (cs := #[.int .i64 ((rd_T37 l0_2 x22_1).f0), .int .i64 ((rd_T37 l0_2 x22_1).f1), .int .i64 ((rd_T37 l0_2 x22_1).f2), .int .i64 ((rd_T37 l0_2 x22_1).f3), .int .i64 0]) ?_ 4 _ rfl; (with_reducible repeat (first | refine blk_drewN ?_ _ | refine blk_drew ?_ | refine blk_alloc ?_ _)); refine blk_put (cs := #[.int .i64 ((rd_T37 l0_2 x22_1).f0), .int .i64 ((rd_T37 l0_2 x22_1).f1), .int .i64 ((rd_T37 l0_2 x22_1).f2), .int .i64 0, .int .i64 0]) ?_ 3 _ rfl; (with_reducible repeat (first | refine blk_drewN ?_ _ | refine blk_drew ?_ | refine blk_alloc ?_ _)); refine blk_put (cs := #[.int .i64 ((rd_T37 l0_2 x22_1).f0), .int .i64 ((rd_T37 l0_2 x22_1).f1), .int .i64 0, .int .i64 0, .int .i64 0]) ?_ 2 _ rfl; (with_reducible repeat (first | refine blk_drewN ?_ _ | refine blk_drew ?_ | refine blk_alloc ?_ _)); refine blk_put (cs := #[.int .i64 ((rd_T37 l0_2 x22_1).f0), .int .i64 0, .int .i64 0, .int .i64 0, .int .i64 0]) ?_ 1 _ rfl; (with_reducible repeat (first | refine blk_drewN ?_ _ | refine blk_drew ?_ | refine blk_alloc ?_ _)); refine blk_put (cs := #[.int .i64 0, .int .i64 0, .int .i64 0, .int .i64 0, .int .i64 0]) ?_ 0 _ rfl; (with_reducible repeat (first | refine blk_drewN ?_ _ | refine blk_drew ?_ | refine blk_alloc ?_ _)); exact BK314.out) hb); have n4_ := Aside0.mk (below_step (by repeat (first | (with_reducible first | exact HB.out | apply below_alloc | apply pw_below_drewN | apply below_drew1 | refine below_set ?_ GE308.out | refine below_set ?_ GE314.out) | exact HB.out)) hb); clear HO_4; clear BK308; clear BK314; clear HB; have HO_4 := n0_; have HO317 := n1_; have BK308 := n2_; have BK314 := n3_; have HB := n4_; clear n0_ n1_ n2_ n3_ n4_; (try clear hb); (try clear hb2); (try clear hk); (try clear hi); (try clear ho0); obtain ⟨Ao21, co21, eo21⟩ := Kd.R_slice HO317.out; subst eo21))
                  go_loopg [7, 29] k1 (fun kq v7 v29 w' => ∃ (x7_2 : Int) (x29_2 : Int), v7 = .int .i64 x7_2 ∧ v29 = .int .i64 x29_2 ∧ Aside0 (prog_Depth.l1 kq x4_1 x7_2 l0_2 (l0_2.length : Int) x22_1 t315 (t315.length : Int) x29_2 a0_0 a0_1 l0_2 l0_3 ((rd_T37 l0_2 x22_1).f0) ((rd_T37 l0_2 x22_1).f1) ((rd_T37 l0_2 x22_1).f2) ((rd_T37 l0_2 x22_1).f3) ((rd_T37 l0_2 x22_1).f4) = some (r1, r2)) ∧ Aside0 (kq ≤ k1) ∧ Aside0 (Kd.R (Kd.int .i64) 3 w' w.heap.size (fun k_ => some k_ ≠ ((.slice Ao21 t315.length co21) : Value).ownBlock) v311 x4_1) ∧ Aside0 (Kd.R (Kd.int .i64) 3 w' w.heap.size (fun k_ => some k_ ≠ (v311 : Value).ownBlock) (.slice Ao21 t315.length co21) t315) ∧ Aside0 (w'.heap[gb308]? = some (.cells #[.int .i64 a0_0, .int .i64 a0_1, (.slice (some ad313) l0_2.length c0_2), (.slice A0_3 l0_3.length c0_3)] 25 (0, 0))) ∧ Aside0 (w'.heap[gb314]? = some (.cells #[.int .i64 ((rd_T37 l0_2 x22_1).f0), .int .i64 ((rd_T37 l0_2 x22_1).f1), .int .i64 ((rd_T37 l0_2 x22_1).f2), .int .i64 ((rd_T37 l0_2 x22_1).f3), .int .i64 ((rd_T37 l0_2 x22_1).f4)] 37 (0, 0))) ∧ Aside0 (Below w.heap.size w w'))
                  case atStart => exact ⟨(0), (0), (by first | rfl | (simp; done) | (simp [*]; done)), (by first | rfl | (simp; done) | (simp [*]; done)), H', ⟨Nat.le_refl _⟩, ⟨by (with_reducible repeat (first | apply Kd.R_alloc | apply Kd.R_drewN | apply Kd.R_drew)); exact Kd.R_mono HO_4.out (fun _ hk => hk.2)⟩, ⟨by (with_reducible repeat (first | apply Kd.R_alloc | apply Kd.R_drewN | apply Kd.R_drew)); exact Kd.R_mono HO317.out (fun _ hk => hk.2)⟩, ⟨by (with_reducible repeat (first | refine blk_drewN ?_ _ | refine blk_drew ?_ | refine blk_alloc ?_ _)); exact BK308.out⟩, ⟨by (with_reducible repeat (first | refine blk_drewN ?_ _ | refine blk_drew ?_ | refine blk_alloc ?_ _)); exact BK314.out⟩, ⟨by repeat (first | (with_reducible first | exact HB.out | apply below_alloc | apply pw_below_drewN | apply below_drew1 | refine below_set ?_ GE308.out | refine below_set ?_ GE314.out) | exact HB.out)⟩⟩
                  case round =>
                    clear H'
                    try clear c3
                    try clear c4
                    try clear c5
                    try clear c13
                    try clear c14
                    try clear c15
                    obtain ⟨x7_2, x29_2, rfl, rfl, HA, HK2, HO_4, HO_27, BK308, BK314, HB⟩ := hrel
                    cases gk with
                    | zero => exact absurd HA.out (by simp [prog_Depth.l1])
                    | succ k2 =>
                      have H := HA.out
                      clear HA
                      simp only [prog_Depth.l1] at H
                      by_cases c22 : x29_2 < (t315.length : Int)
                      · rw [if_pos c22] at H
                        have c22b0 : decide (x29_2 < (t315.length : Int)) = true := decide_eq_true c22
                        clear c22
                        by_cases c23 : 0 ≤ x29_2
                        · rw [if_pos c23] at H
                          have c23b0 : decide (0 ≤ x29_2) = true := decide_eq_true c23
                          clear c23
                          by_cases c24 : x29_2 < (t315.length : Int)
                          · rw [if_pos c24] at H
                            have c24b0 : decide (x29_2 < (t315.length : Int)) = true := decide_eq_true c24
                            clear c24
                            by_cases c25 : 0 ≤ (rd t315 x29_2)
                            · rw [if_pos c25] at H
                              have c25b0 : decide (0 ≤ (rd t315 x29_2)) = true := decide_eq_true c25
                              clear c25
                              by_cases c26 : (rd t315 x29_2) < (x4_1.length : Int)
                              · rw [if_pos c26] at H
                                have c26b0 : decide ((rd t315 x29_2) < (x4_1.length : Int)) = true := decide_eq_true c26
                                clear c26
                                obtain ⟨ji27, hji27⟩ : ∃ j_ : Int, (mx x7_2 (rd x4_1 (rd t315 x29_2))) = j_ := ⟨_, rfl⟩
                                replace H : (prog_Depth.l1 k2 x4_1 ji27 l0_2 (l0_2.length : Int) x22_1 t315 (t315.length : Int) (wrap64 (x29_2 + 1)) a0_0 a0_1 l0_2 l0_3 ((rd_T37 l0_2 x22_1).f0) ((rd_T37 l0_2 x22_1).f1) ((rd_T37 l0_2 x22_1).f2) ((rd_T37 l0_2 x22_1).f3) ((rd_T37 l0_2 x22_1).f4)) = some (r1, r2) := by first | (rw [hji27] at H; exact H) | (simp only [hji27] at H ⊢; exact H)
                                have hji27_ : (if x7_2 < (rd x4_1 (rd t315 x29_2)) then (rd x4_1 (rd t315 x29_2)) else x7_2) = ji27 := hji27
                                have H' := Aside0.mk H
                                clear H
                                have p318 : 0 ≤ (x29_2 : Int) := of_decide_eq_true (by first | (with_reducible assumption) | assumption)
                                have q318 : x29_2 < (t315.length : Int) := of_decide_eq_true (by first | (with_reducible assumption) | assumption)
                                obtain ⟨ad318, e318, hx318_0⟩ := Kd.at_int (Kd.R_reads' HO_27.out).2.2 x29_2 p318 q318
                                cases e318
                                replace p318 := eq_true p318
                                replace q318 := eq_true q318
                                obtain ⟨Ao28, co28, eo28⟩ := Kd.R_slice HO_4.out
                                subst eo28
                                have p319 : 0 ≤ ((rd t315 x29_2) : Int) := of_decide_eq_true (by first | (with_reducible assumption) | assumption)
                                have q319 : (rd t315 x29_2) < (x4_1.length : Int) := of_decide_eq_true (by first | (with_reducible assumption) | assumption)
                                obtain ⟨ad319, e319, hx319_0⟩ := Kd.at_int (Kd.R_reads' HO_4.out).2.2 (rd t315 x29_2) p319 q319
                                cases e319
                                replace p319 := eq_true p319
                                replace q319 := eq_true q319
                                go_wp2
                                go_roundg k2
                                case measure => have := HK1.out; have := HK2.out; omega
                                case rel => exact ⟨(ji27), (wrap64 (x29_2 + 1)), (by first | rfl | (simp; done) | (simp only [← hji27] <;> (first | rfl | simp)) | (simp [*]; done)), (by first | rfl | (simp; done) | (simp [*]; done)), H', ⟨by have := HK1.out; have := HK2.out; omega⟩, ⟨by (with_reducible repeat (first | apply Kd.R_alloc | apply Kd.R_drewN | apply Kd.R_drew)); exact HO_4.out⟩, ⟨by (with_reducible repeat (first | apply Kd.R_alloc | apply Kd.R_drewN | apply Kd.R_drew)); exact HO_27.out⟩, ⟨by (with_reducible repeat (first | refine blk_drewN ?_ _ | refine blk_drew ?_ | refine blk_alloc ?_ _)); exact BK308.out⟩, ⟨by (with_reducible repeat (first | refine blk_drewN ?_ _ | refine blk_drew ?_ | refine blk_alloc ?_ _)); exact BK314.out⟩, ⟨by repeat (first | (with_reducible first | exact HB.out | apply below_alloc | apply pw_below_drewN | apply below_drew1 | refine below_set ?_ GE308.out | refine below_set ?_ GE314.out) | exact HB.out)⟩⟩
                              · rw [if_neg c26] at H
                                exact absurd H (by simp)
                            · rw [if_neg c25] at H
                              exact absurd H (by simp)
                          · rw [if_neg c24] at H
                            exact absurd H (by simp)
                        · rw [if_neg c23] at H
                          exact absurd H (by simp)
                      · rw [if_neg c22] at H
                        have c22b0 : decide (x29_2 < (t315.length : Int)) = false := decide_eq_false c22
                        clear c22
                        by_cases c29 : 0 ≤ ((rd_T37 l0_2 x22_1).f1)
                        · rw [if_pos c29] at H
                          have c29b0 : decide (0 ≤ ((rd_T37 l0_2 x22_1).f1)) = true := decide_eq_true c29
                          clear c29
                          by_cases c30 : ((rd_T37 l0_2 x22_1).f1) < (x4_1.length : Int)
                          · rw [if_pos c30] at H
                            have c30b0 : decide (((rd_T37 l0_2 x22_1).f1) < (x4_1.length : Int)) = true := decide_eq_true c30
                            clear c30
                            obtain ⟨y320, hy320⟩ : ∃ y_ : List Int, y_ = (x4_1.set (((rd_T37 l0_2 x22_1).f1) : Int).toNat (wrap64 (x7_2 + 1))) := ⟨_, rfl⟩
                            replace H : (prog_Depth.l0 k2 y320 l0_2 (l0_2.length : Int) (wrap64 (x22_1 + 1)) a0_0 a0_1 l0_2 l0_3) = some (r1, r2) := by first | (rw [hy320]; with_reducible exact H) | (have H2_ := (Option.bind_some _ _).symm.trans H; rw [hy320]; with_reducible exact H2_) | (have H2_ := (Option.bind_some _ _).symm.trans H; with_reducible exact H2_) | with_reducible exact H | (rw [hy320]; exact H) | exact H
                            have Ny320 := Aside0.mk hy320
                            clear hy320
                            have H' := Aside0.mk H
                            clear H
                            have hnb32 := NB314_308.out
                            have hnc32 := NB308_314.out
                            have hcz33_0 : wr.cell? ⟨gb314, 0, none⟩ = some (.int .i64 ((rd_T37 l0_2 x22_1).f0)) := (blk_cell BK314.out 0).trans rfl
                            have hcz33_1 : wr.cell? ⟨gb314, 1, none⟩ = some (.int .i64 ((rd_T37 l0_2 x22_1).f1)) := (blk_cell BK314.out 1).trans rfl
                            have hcz33_2 : wr.cell? ⟨gb314, 2, none⟩ = some (.int .i64 ((rd_T37 l0_2 x22_1).f2)) := (blk_cell BK314.out 2).trans rfl
                            have hcz33_3 : wr.cell? ⟨gb314, 3, none⟩ = some (.int .i64 ((rd_T37 l0_2 x22_1).f3)) := (blk_cell BK314.out 3).trans rfl
                            have hcz33_4 : wr.cell? ⟨gb314, 4, none⟩ = some (.int .i64 ((rd_T37 l0_2 x22_1).f4)) := (blk_cell BK314.out 4).trans rfl
                            have hfz33_0 := blk_frozen BK314.out 0
                            have hfz33_1 := blk_frozen BK314.out 1
                            have hfz33_2 := blk_frozen BK314.out 2
                            have hfz33_3 := blk_frozen BK314.out 3
                            have hfz33_4 := blk_frozen BK314.out 4
                            have p31 : 0 ≤ (((rd_T37 l0_2 x22_1).f1) : Int) := of_decide_eq_true (by first | (with_reducible assumption) | assumption)
                            have q31 : (((rd_T37 l0_2 x22_1).f1) : Int) < ((x4_1.length : Int) : Int) := of_decide_eq_true (by first | (with_reducible assumption) | assumption)
                            obtain ⟨go31, co31, eo31, gb31, gl31, cl31, HG31⟩ := Kd.R_form HO_4.out (by omega)
                            (first | cases eo31 | (injection eo31 with ea_ en_ ec_; (first | subst ea_ | (injection ea_ with ea_; subst ea_)); subst ec_; clear en_))
                            have GB31 := Aside0.mk gb31
                            have GG31 := Aside0.mk HG31
                            clear gb31 gl31 HG31
                            obtain ⟨hx31_0, hf31_0⟩ := Kd.R_celln 0 HO_4.out (((rd_T37 l0_2 x22_1).f1) : Int) p31 q31
                            replace p31 := eq_true p31
                            replace q31 := eq_true q31
                            have HP34 := Kd.R_putg HO_4.out (((rd_T37 l0_2 x22_1).f1) : Int) (wrap64 (x7_2 + 1))
                            go_wp2_with (first | ((with_reducible refine gate_store (t := 3) (p := 45) rfl ?_); refine store_event (t := 3) (p := 45) (v := ?vo_w35) (w1 := (wr.setCell ⟨go31, (((rd_T37 l0_2 x22_1).f1) : Int).toNat, none⟩ (.int .i64 (wrap64 (x7_2 + 1))))) ?hg ?ho ?hn ?hr ?_; (case ho => rfl); (case hg => rfl); (case hn => rfl); (case hr => first | (go_simp; done) | (go_simp; rfl)); intro w35 hw; have hg : wr.grownBy w35 (some go31) := (by rw [hw]; exact HP34.2); have hp_ : Kd.R (Kd.int .i64) 3 w35 w.heap.size (fun k_ => some k_ ≠ (.slice Ao21 t315.length co21 : Value).ownBlock) (.slice (some ⟨go31, 0, none⟩) x4_1.length co31) y320 := (by rw [hw, Ny320.out]; exact HP34.1); clear HP34; have n0_ := Aside0.mk (hp_); have n1_ := Aside0.mk (Kd.R_after (v := (.slice (some ⟨go31, 0, none⟩) x4_1.length co31)) (v1 := (.slice (some ⟨go31, 0, none⟩) x4_1.length co31)) (ok := (fun _ => True)) (by (with_reducible repeat (first | apply Kd.R_alloc | apply Kd.R_drewN | apply Kd.R_drew)); exact Kd.R_mono HO_27.out (fun _ hk => ⟨trivial, hk⟩)) hg (.inl rfl)); have n2_ := Aside0.mk (blk_grown (g := gb308) (o := .cells #[.int .i64 a0_0, .int .i64 a0_1, .slice (some ad313) l0_2.length c0_2, .slice A0_3 l0_3.length c0_3] 25 (0, 0)) (by (with_reducible repeat (first | refine blk_drewN ?_ _ | refine blk_drew ?_ | refine blk_alloc ?_ _)); exact BK308.out) hg (Kd.R_ne HO_4.out BK308.out (by decide))); have n3_ := Aside0.mk (blk_grown (g := gb314) (o := .cells #[.int .i64 ((rd_T37 l0_2 x22_1).f0), .int .i64 ((rd_T37 l0_2 x22_1).f1), .int .i64 ((rd_T37 l0_2 x22_1).f2), .int .i64 ((rd_T37 l0_2 x22_1).f3), .int .i64 ((rd_T37 l0_2 x22_1).f4)] 37 (0, 0)) (by (with_reducible repeat (first | refine blk_drewN ?_ _ | refine blk_drew ?_ | refine blk_alloc ?_ _)); exact BK314.out) hg (Kd.R_ne HO_4.out BK314.out (by decide))); have n4_ := Aside0.mk ((by rw [hw]; exact below_set (HB.out) GB31.out : Below w.heap.size w w35)); clear HO_4; clear HO_27; clear BK308; clear BK314; clear HB; have HO_4 := n0_; have HO_27 := n1_; have BK308 := n2_; have BK314 := n3_; have HB := n4_; clear n0_ n1_ n2_ n3_ n4_; clear hg hw hp_))
                            go_roundg k2
                            case measure => have := HK1.out; have := HK2.out; omega
                            case rel => exact ⟨(y320), (wrap64 (x22_1 + 1)), (by first | rfl | (simp; done) | (simp [*]; done)), H', ⟨by have := HK1.out; have := HK2.out; omega⟩, ⟨by (with_reducible repeat (first | apply Kd.R_alloc | apply Kd.R_drewN | apply Kd.R_drew)); exact Kd.R_mono HO_4.out (fun _ hk => trivial)⟩, ⟨by (with_reducible repeat (first | refine blk_drewN ?_ _ | refine blk_drew ?_ | refine blk_alloc ?_ _)); exact BK308.out⟩, ⟨by repeat (first | (with_reducible first | exact HB.out | apply below_alloc | apply pw_below_drewN | apply below_drew1 | refine below_set ?_ GE308.out | refine below_set ?_ GE314.out) | exact HB.out)⟩⟩
                          · rw [if_neg c30] at H
                            exact absurd H (by simp)
                        · rw [if_neg c29] at H
                          exact absurd H (by simp)
                · rw [if_neg c15] at H
                  exact absurd H (by simp)
              · rw [if_neg c14] at H
                exact absurd H (by simp)
            · rw [if_neg c13] at H
              have c13b0 : decide (x22_1 < (l0_2.length : Int)) = false := decide_eq_false c13
              clear c13
              have H' := Aside0.mk H
              clear H
              have hcz36_0 : wr.cell? ⟨gb308, 0, none⟩ = some (.int .i64 a0_0) := (blk_cell BK308.out 0).trans rfl
              have hcz36_1 : wr.cell? ⟨gb308, 1, none⟩ = some (.int .i64 a0_1) := (blk_cell BK308.out 1).trans rfl
              have hcz36_2 : wr.cell? ⟨gb308, 2, none⟩ = some (.slice A0_2 l0_2.length c0_2) := (blk_cell BK308.out 2).trans rfl
              have hcz36_3 : wr.cell? ⟨gb308, 3, none⟩ = some (.slice A0_3 l0_3.length c0_3) := (blk_cell BK308.out 3).trans rfl
              have hfz36_0 := blk_frozen BK308.out 0
              have hfz36_1 := blk_frozen BK308.out 1
              have hfz36_2 := blk_frozen BK308.out 2
              have hfz36_3 := blk_frozen BK308.out 3
              go_wp2
              go_loopg [10, 50] k1 (fun kq v10 v50 w' => ∃ (x10_2 : Int) (x50_2 : Int), v10 = .int .i64 x10_2 ∧ v50 = .int .i64 x50_2 ∧ Aside0 (prog_Depth.l2 kq x4_1 x10_2 l0_3 (l0_3.length : Int) x50_2 = some (r1, r2)) ∧ Aside0 (kq ≤ k1) ∧ Aside0 (Kd.R (Kd.int .i64) 3 w' w.heap.size (fun _ => True) v311 x4_1) ∧ Aside0 (w'.heap[gb308]? = some (.cells #[.int .i64 a0_0, .int .i64 a0_1, (.slice A0_2 l0_2.length c0_2), (.slice A0_3 l0_3.length c0_3)] 25 (0, 0))) ∧ Aside0 (Below w.heap.size w w'))
              case atStart => exact ⟨(0), (0), (by first | rfl | (simp; done) | (simp [*]; done)), (by first | rfl | (simp; done) | (simp [*]; done)), H', ⟨Nat.le_refl _⟩, ⟨by (with_reducible repeat (first | apply Kd.R_alloc | apply Kd.R_drewN | apply Kd.R_drew)); exact HO_4.out⟩, ⟨by (with_reducible repeat (first | refine blk_drewN ?_ _ | refine blk_drew ?_ | refine blk_alloc ?_ _)); exact BK308.out⟩, ⟨by repeat (first | (with_reducible first | exact HB.out | apply below_alloc | apply pw_below_drewN | apply below_drew1 | refine below_set ?_ GE308.out) | exact HB.out)⟩⟩
              case round =>
                clear H'
                try clear c3
                try clear c4
                try clear c5
                try clear c13
                obtain ⟨x10_2, x50_2, rfl, rfl, HA, HK2, HO_4, BK308, HB⟩ := hrel
                cases gk with
                | zero => exact absurd HA.out (by simp [prog_Depth.l2])
                | succ k2 =>
                  have H := HA.out
                  clear HA
                  simp only [prog_Depth.l2] at H
                  by_cases c37 : x50_2 < (l0_3.length : Int)
                  · rw [if_pos c37] at H
                    have c37b0 : decide (x50_2 < (l0_3.length : Int)) = true := decide_eq_true c37
                    clear c37
                    by_cases c38 : 0 ≤ x50_2
                    · rw [if_pos c38] at H
                      have c38b0 : decide (0 ≤ x50_2) = true := decide_eq_true c38
                      clear c38
                      by_cases c39 : x50_2 < (l0_3.length : Int)
                      · rw [if_pos c39] at H
                        have c39b0 : decide (x50_2 < (l0_3.length : Int)) = true := decide_eq_true c39
                        clear c39
                        by_cases c40 : 0 ≤ (rd l0_3 x50_2)
                        · rw [if_pos c40] at H
                          have c40b0 : decide (0 ≤ (rd l0_3 x50_2)) = true := decide_eq_true c40
                          clear c40
                          by_cases c41 : (rd l0_3 x50_2) < (x4_1.length : Int)
                          · rw [if_pos c41] at H
                            have c41b0 : decide ((rd l0_3 x50_2) < (x4_1.length : Int)) = true := decide_eq_true c41
                            clear c41
                            obtain ⟨ji42, hji42⟩ : ∃ j_ : Int, (mx x10_2 (rd x4_1 (rd l0_3 x50_2))) = j_ := ⟨_, rfl⟩
                            replace H : (prog_Depth.l2 k2 x4_1 ji42 l0_3 (l0_3.length : Int) (wrap64 (x50_2 + 1))) = some (r1, r2) := by first | (rw [hji42] at H; exact H) | (simp only [hji42] at H ⊢; exact H)
                            have hji42_ : (if x10_2 < (rd x4_1 (rd l0_3 x50_2)) then (rd x4_1 (rd l0_3 x50_2)) else x10_2) = ji42 := hji42
                            have H' := Aside0.mk H
                            clear H
                            have p321 : 0 ≤ (x50_2 : Int) := of_decide_eq_true (by first | (with_reducible assumption) | assumption)
                            have q321 : x50_2 < (l0_3.length : Int) := of_decide_eq_true (by first | (with_reducible assumption) | assumption)
                            obtain ⟨ad321, e321, hx321_0⟩ := Kd.at_int HR0_3.out x50_2 p321 q321
                            cases e321
                            replace hx321_0 := (HB.out.cell (World.block_lt_of_cell? w _ hx321_0)).trans hx321_0
                            replace p321 := eq_true p321
                            replace q321 := eq_true q321
                            obtain ⟨Ao43, co43, eo43⟩ := Kd.R_slice HO_4.out
                            subst eo43
                            have p322 : 0 ≤ ((rd l0_3 x50_2) : Int) := of_decide_eq_true (by first | (with_reducible assumption) | assumption)
                            have q322 : (rd l0_3 x50_2) < (x4_1.length : Int) := of_decide_eq_true (by first | (with_reducible assumption) | assumption)
                            obtain ⟨ad322, e322, hx322_0⟩ := Kd.at_int (Kd.R_reads' HO_4.out).2.2 (rd l0_3 x50_2) p322 q322
                            cases e322
                            replace p322 := eq_true p322
                            replace q322 := eq_true q322
                            go_wp2
                            go_roundg k2
                            case measure => have := HK1.out; have := HK2.out; omega
                            case rel => exact ⟨(ji42), (wrap64 (x50_2 + 1)), (by first | rfl | (simp; done) | (simp only [← hji42] <;> (first | rfl | simp)) | (simp [*]; done)), (by first | rfl | (simp; done) | (simp [*]; done)), H', ⟨by have := HK1.out; have := HK2.out; omega⟩, ⟨by (with_reducible repeat (first | apply Kd.R_alloc | apply Kd.R_drewN | apply Kd.R_drew)); exact HO_4.out⟩, ⟨by (with_reducible repeat (first | refine blk_drewN ?_ _ | refine blk_drew ?_ | refine blk_alloc ?_ _)); exact BK308.out⟩, ⟨by repeat (first | (with_reducible first | exact HB.out | apply below_alloc | apply pw_below_drewN | apply below_drew1 | refine below_set ?_ GE308.out) | exact HB.out)⟩⟩
                          · rw [if_neg c41] at H
                            exact absurd H (by simp)
                        · rw [if_neg c40] at H
                          exact absurd H (by simp)
                      · rw [if_neg c39] at H
                        exact absurd H (by simp)
                    · rw [if_neg c38] at H
                      exact absurd H (by simp)
                  · rw [if_neg c37] at H
                    have c37b0 : decide (x50_2 < (l0_3.length : Int)) = false := decide_eq_false c37
                    clear c37
                    simp only [Option.some.injEq, Prod.mk.injEq] at H
                    obtain ⟨rfl, rfl⟩ := H
                    go_wp2
                    go_ret2
                    exact ⟨by first | rfl | (simp [errW_none, errW_some] <;> rfl) | (simp [*, errW_none, errW_some] <;> rfl), by repeat (first | (with_reducible first | exact HB.out | apply below_alloc | apply pw_below_drewN | apply below_drew1 | refine below_set ?_ GE308.out) | exact HB.out)⟩
      · rw [if_neg c5] at H
        exact absurd H (by simp)
    · rw [if_neg c4] at H
      exact absurd H (by simp)
  · replace c3 := Bool.eq_false_iff.mpr c3
    subst c3
    have H1 : (some (0, 80)) = some (r1, r2) := by rw [if_neg (show ¬ (false = true) by decide)] at H; exact H
    clear H
    have H := H1
    clear H1
    simp only [Option.some.injEq, Prod.mk.injEq] at H
    obtain ⟨rfl, rfl⟩ := H
    go_enter Tryd.func25, Tryd.ntmps25
    go_wp2_with (first | ((with_reducible refine gate_dst (N := 1) rfl ?_); refine box_event ?hg (N := 1) ?hd (cs := #[.int .i64 a0_0, .int .i64 a0_1, .slice A0_2 l0_2.length c0_2, .slice A0_3 l0_3.length c0_3]) (t := 25) ?hr ?_; (case hd => rfl); (case hg => rfl); (case hr => first | (go_simp; done) | (go_simp; rfl)); intro gb308 hg w44 hbox hb; have n0_ := Aside0.mk (below_step (by repeat (first | (with_reducible first | exact HB.out | apply below_alloc | apply pw_below_drewN | apply below_drew1) | exact HB.out)) hb); have n1_ := Aside0.mk (hbox); have n2_ := Aside0.mk ((by rw [hg]; exact (below_size (by repeat (first | (with_reducible first | exact HB.out | apply below_alloc | apply pw_below_drewN | apply below_drew1) | exact HB.out))) : w.heap.size ≤ gb308)); have n3_ := Aside0.mk ((by rw [hg]; exact (below_size (by repeat (first | (with_reducible first | exact HB.out | apply below_alloc | apply pw_below_drewN | apply below_drew1) | exact HB.out))) : w.heap.size ≤ gb308)); clear HB; have HB := n0_; have BK308 := n1_; have GW308 := n2_; have GE308 := n3_; clear n0_ n1_ n2_ n3_; clear hb hbox hg; have hcz45_0 : w44.cell? ⟨gb308, 0, none⟩ = some (.int .i64 a0_0) := (blk_cell BK308.out 0).trans rfl; have hcz45_1 : w44.cell? ⟨gb308, 1, none⟩ = some (.int .i64 a0_1) := (blk_cell BK308.out 1).trans rfl; have hcz45_2 : w44.cell? ⟨gb308, 2, none⟩ = some (.slice A0_2 l0_2.length c0_2) := (blk_cell BK308.out 2).trans rfl; have hcz45_3 : w44.cell? ⟨gb308, 3, none⟩ = some (.slice A0_3 l0_3.length c0_3) := (blk_cell BK308.out 3).trans rfl; have hfz45_0 := blk_frozen BK308.out 0; have hfz45_1 := blk_frozen BK308.out 1; have hfz45_2 := blk_frozen BK308.out 2; have hfz45_3 := blk_frozen BK308.out 3) | ((with_reducible refine gate_callee (f := 37) rfl ?_); refine goesL_ (some 14) rfl rfl Tryd.func37 (by kernel_rfl) rfl #[.agg #[.int .i64 a0_0, .int .i64 a0_1, .slice A0_2 l0_2.length c0_2, .slice A0_3 l0_3.length c0_3]] rfl (by (try simp only [List.map_toArray, List.map_cons, List.map_nil]); first | done | rfl | (simp only [List.length_drop, List.length_take]; rfl)) ?_; (with_reducible refine (prog_right.calls k a0_0 a0_1 _ _ l0_2 _ _ l0_3 false _ ?side1 ?side2 ?side3 ?side4 A2.out).mono ?_); (case side1 => repeat (first | exact (Kd.C_below HR0_2.out HB.out) | (with_reducible refine Kd.C_alloc ?_ _) | (with_reducible refine Kd.C_drewN ?_ _) | (with_reducible refine Kd.C_drew ?_))); (case side2 => exact HC0_2.out); (case side3 => repeat (first | exact (Kd.C_below HR0_3.out HB.out) | (with_reducible refine Kd.C_alloc ?_ _) | (with_reducible refine Kd.C_drewN ?_ _) | (with_reducible refine Kd.C_drew ?_))); (case side4 => exact HC0_3.out); rintro e w46 ⟨rfl, hb⟩; refine ⟨_, rfl, ?_⟩; have n0_ := Aside0.mk (blk_below (g := gb308) (o := .cells #[.int .i64 a0_0, .int .i64 a0_1, .slice A0_2 l0_2.length c0_2, .slice A0_3 l0_3.length c0_3] 25 (0, 0)) (by (with_reducible repeat (first | refine blk_drewN ?_ _ | refine blk_drew ?_ | refine blk_alloc ?_ _)); exact BK308.out) hb); have n1_ := Aside0.mk (below_step (by repeat (first | (with_reducible first | exact HB.out | apply below_alloc | apply pw_below_drewN | apply below_drew1 | refine below_set ?_ GE308.out) | exact HB.out)) hb); clear BK308; clear HB; have BK308 := n0_; have HB := n1_; clear n0_ n1_; (try clear hb); (try clear hb2); (try clear hk); (try clear hi)))
    go_ret2
    exact ⟨by first | rfl | (simp [errW_none, errW_some] <;> rfl) | (simp [*, errW_none, errW_some] <;> rfl), by repeat (first | (with_reducible first | exact HB.out | apply below_alloc | apply pw_below_drewN | apply below_drew1 | refine below_set ?_ GE308.out) | exact HB.out)⟩

end Go.Proofs.YtkknkdmdglncoaaDoor.XA
end

section
namespace Go.Proofs.YtkknkdmdglncoaaDoor.XA
open Go.RowKit Go.Proofs.YtkknkdmdglncoaaDoorW.PrintWords Go.Proofs.YtkknkdmdglncoaaDoorW.PrintLast Go.Proofs.YtkknkdmdglncoaaDoorW.PrintMore
attribute [local go_sem] max2_int min2_int max_two min_two max_three min_three max_four min_four   -- for this text's walks alone
set_option linter.unusedVariables false
set_option linter.unusedSimpArgs false

/-! ### swagelaw08_ProgJoins: function 6 -/
mutual
def swagelaw08_ProgJoins.j0 : Nat → Bool → Int → Int → List (S37) → List Int → Int → Int → List (S37) → List Int → Option (Bool)
  | 0, _, _, _, _, _, _, _, _, _ => none
  | k + 1, x26, x324000, x324001, x324002, x324003, x325000, x325001, x325002, x325003 => if x26 = true then (some true) else ((prog_Join.f k x324000 x324001 x324002 x324003 x325000 x325001 x325002 x325003).bind fun bt328 => ((swageref08_Right.f k x324000 x324001 x324002 x324003).bind fun t338 => ((swageref08_Right.f k x325000 x325001 x325002 x325003).bind fun t339 => (if t338 = true then (swagelaw08_ProgJoins.j1 k bt328.2.2.2.2 (!t339) x324000 x324001 x324002 x324003 x325000 x325001 x325002 x325003 bt328.1 bt328.2.1 bt328.2.2.1 bt328.2.2.2.1) else (swagelaw08_ProgJoins.j1 k bt328.2.2.2.2 true x324000 x324001 x324002 x324003 x325000 x325001 x325002 x325003 bt328.1 bt328.2.1 bt328.2.2.1 bt328.2.2.2.1)))))
def swagelaw08_ProgJoins.j1 : Nat → Int → Bool → Int → Int → List (S37) → List Int → Int → Int → List (S37) → List Int → Int → Int → List (S37) → List Int → Option (Bool)
  | 0, _, _, _, _, _, _, _, _, _, _, _, _, _, _ => none
  | k + 1, x6, x42, x324000, x324001, x324002, x324003, x325000, x325001, x325002, x325003, x338000, x338001, x338002, x338003 => if x42 = true then ((swagelaw08_empty.f x338000 x338001 x338002 x338003).bind fun t340 => (if t340 = true then (if x6 = 80 then ((swagelaw08_live.f k).bind fun t341 => (some t341)) else (some false)) else (some false))) else ((swageref08_Join.f k x324000 x324001 x324002 x324003 x325000 x325001 x325002 x325003).bind fun bt342 => (if x6 = bt342.2.2.2.2 then ((swageref08_Same.f k x338000 x338001 x338002 x338003 bt342.1 bt342.2.1 bt342.2.2.1 bt342.2.2.2.1).bind fun t352 => (if t352 = true then ((swagelaw08_live.f k).bind fun t353 => (swagelaw08_ProgJoins.j2 k x6 (!t353) x324000 x324001 x324002 x324003 x325000 x325001 x325002 x325003 x338000 x338001 x338002 x338003)) else (swagelaw08_ProgJoins.j2 k x6 true x324000 x324001 x324002 x324003 x325000 x325001 x325002 x325003 x338000 x338001 x338002 x338003))) else (swagelaw08_ProgJoins.j2 k x6 true x324000 x324001 x324002 x324003 x325000 x325001 x325002 x325003 x338000 x338001 x338002 x338003)))
def swagelaw08_ProgJoins.j2 : Nat → Int → Bool → Int → Int → List (S37) → List Int → Int → Int → List (S37) → List Int → Int → Int → List (S37) → List Int → Option (Bool)
  | 0, _, _, _, _, _, _, _, _, _, _, _, _, _, _ => none
  | k + 1, x6, x70, x324000, x324001, x324002, x324003, x325000, x325001, x325002, x325003, x338000, x338001, x338002, x338003 => if x70 = true then (some false) else (if x6 = 0 then ((prog_Depth.f k x324000 x324001 x324002 x324003).bind fun bt354 => ((prog_Depth.f k x325000 x325001 x325002 x325003).bind fun bt356 => ((prog_Depth.f k x338000 x338001 x338002 x338003).bind fun bt358 => ((prog_Check.f k x338000 x338001 x338002 x338003).bind fun bt360 => (if bt358.2 = 0 then (if bt360.2 = 0 then (some (decide (bt358.1 ≤ (wrap64 ((wrap64 (bt354.1 + bt356.1)) + 1))))) else (some false)) else (some false)))))) else (some true))
end
def swagelaw08_ProgJoins.f (k : Nat) (a0_0 : Int) (a0_1 : Int) (l0_2 : List (S37)) (l0_3 : List Int) (a1_0 : Int) (a1_1 : Int) (l1_2 : List (S37)) (l1_3 : List Int) : Option (Bool) := (swagelaw08_live.f k).bind fun t325 => (if t325 = true then ((swagelaw08_long.f a0_0 a0_1 l0_2 l0_3).bind fun t326 => (if t326 = true then (swagelaw08_ProgJoins.j0 k true a0_0 a0_1 l0_2 l0_3 a1_0 a1_1 l1_2 l1_3) else ((swagelaw08_long.f a1_0 a1_1 l1_2 l1_3).bind fun t327 => (swagelaw08_ProgJoins.j0 k t327 a0_0 a0_1 l0_2 l0_3 a1_0 a1_1 l1_2 l1_3)))) else (some false))
theorem swagelaw08_ProgJoins.mono_l : ∀ k, (∀ y0 y1 y2 y3 y4 y5 y6 y7 y8, LeO (swagelaw08_ProgJoins.j0 k y0 y1 y2 y3 y4 y5 y6 y7 y8) (swagelaw08_ProgJoins.j0 (k + 1) y0 y1 y2 y3 y4 y5 y6 y7 y8)) ∧ (∀ y0 y1 y2 y3 y4 y5 y6 y7 y8 y9 y10 y11 y12 y13, LeO (swagelaw08_ProgJoins.j1 k y0 y1 y2 y3 y4 y5 y6 y7 y8 y9 y10 y11 y12 y13) (swagelaw08_ProgJoins.j1 (k + 1) y0 y1 y2 y3 y4 y5 y6 y7 y8 y9 y10 y11 y12 y13)) ∧ (∀ y0 y1 y2 y3 y4 y5 y6 y7 y8 y9 y10 y11 y12 y13, LeO (swagelaw08_ProgJoins.j2 k y0 y1 y2 y3 y4 y5 y6 y7 y8 y9 y10 y11 y12 y13) (swagelaw08_ProgJoins.j2 (k + 1) y0 y1 y2 y3 y4 y5 y6 y7 y8 y9 y10 y11 y12 y13))
  | 0 => ⟨fun _ _ _ _ _ _ _ _ _ r h => by simp [swagelaw08_ProgJoins.j0] at h, fun _ _ _ _ _ _ _ _ _ _ _ _ _ _ r h => by simp [swagelaw08_ProgJoins.j1] at h, fun _ _ _ _ _ _ _ _ _ _ _ _ _ _ r h => by simp [swagelaw08_ProgJoins.j2] at h⟩
  | k + 1 => by
    obtain ⟨ih0, ih1, ih2⟩ := swagelaw08_ProgJoins.mono_l k
    refine ⟨?_, ?_, ?_⟩
    · intro y0 y1 y2 y3 y4 y5 y6 y7 y8
      unfold swagelaw08_ProgJoins.j0
      repeat' first
      | (with_reducible exact ih0 _ _ _ _ _ _ _ _ _)
      | (with_reducible exact ih1 _ _ _ _ _ _ _ _ _ _ _ _ _ _)
      | (with_reducible exact ih2 _ _ _ _ _ _ _ _ _ _ _ _ _ _)
      | (with_reducible exact prog_Check.mono _ _ _ _ _)
      | (with_reducible exact prog_Depth.mono _ _ _ _ _)
      | (with_reducible exact prog_Join.mono _ _ _ _ _ _ _ _ _)
      | (with_reducible exact swagelaw08_live.mono _)
      | (with_reducible exact swageref08_Join.mono _ _ _ _ _ _ _ _ _)
      | (with_reducible exact swageref08_Right.mono _ _ _ _ _)
      | (with_reducible exact swageref08_Same.mono _ _ _ _ _ _ _ _ _)
      | (with_reducible exact LeO.refl _)
      | (with_reducible exact LeO.none _)
      | (with_reducible refine LeO.ite ?_ ?_)
      | (with_reducible refine LeO.bind ?_ (fun _ => ?_))
      | exact ih0 _ _ _ _ _ _ _ _ _
      | exact ih1 _ _ _ _ _ _ _ _ _ _ _ _ _ _
      | exact ih2 _ _ _ _ _ _ _ _ _ _ _ _ _ _
      | exact prog_Check.mono _ _ _ _ _
      | exact prog_Depth.mono _ _ _ _ _
      | exact prog_Join.mono _ _ _ _ _ _ _ _ _
      | exact swagelaw08_live.mono _
      | exact swageref08_Join.mono _ _ _ _ _ _ _ _ _
      | exact swageref08_Right.mono _ _ _ _ _
      | exact swageref08_Same.mono _ _ _ _ _ _ _ _ _
      | exact LeO.none _
      | refine LeO.ite ?_ ?_
      | refine LeO.bind ?_ (fun _ => ?_)
    · intro y0 y1 y2 y3 y4 y5 y6 y7 y8 y9 y10 y11 y12 y13
      unfold swagelaw08_ProgJoins.j1
      repeat' first
      | (with_reducible exact ih0 _ _ _ _ _ _ _ _ _)
      | (with_reducible exact ih1 _ _ _ _ _ _ _ _ _ _ _ _ _ _)
      | (with_reducible exact ih2 _ _ _ _ _ _ _ _ _ _ _ _ _ _)
      | (with_reducible exact prog_Check.mono _ _ _ _ _)
      | (with_reducible exact prog_Depth.mono _ _ _ _ _)
      | (with_reducible exact prog_Join.mono _ _ _ _ _ _ _ _ _)
      | (with_reducible exact swagelaw08_live.mono _)
      | (with_reducible exact swageref08_Join.mono _ _ _ _ _ _ _ _ _)
      | (with_reducible exact swageref08_Right.mono _ _ _ _ _)
      | (with_reducible exact swageref08_Same.mono _ _ _ _ _ _ _ _ _)
      | (with_reducible exact LeO.refl _)
      | (with_reducible exact LeO.none _)
      | (with_reducible refine LeO.ite ?_ ?_)
      | (with_reducible refine LeO.bind ?_ (fun _ => ?_))
      | exact ih0 _ _ _ _ _ _ _ _ _
      | exact ih1 _ _ _ _ _ _ _ _ _ _ _ _ _ _
      | exact ih2 _ _ _ _ _ _ _ _ _ _ _ _ _ _
      | exact prog_Check.mono _ _ _ _ _
      | exact prog_Depth.mono _ _ _ _ _
      | exact prog_Join.mono _ _ _ _ _ _ _ _ _
      | exact swagelaw08_live.mono _
      | exact swageref08_Join.mono _ _ _ _ _ _ _ _ _
      | exact swageref08_Right.mono _ _ _ _ _
      | exact swageref08_Same.mono _ _ _ _ _ _ _ _ _
      | exact LeO.none _
      | refine LeO.ite ?_ ?_
      | refine LeO.bind ?_ (fun _ => ?_)
    · intro y0 y1 y2 y3 y4 y5 y6 y7 y8 y9 y10 y11 y12 y13
      unfold swagelaw08_ProgJoins.j2
      repeat' first
      | (with_reducible exact ih0 _ _ _ _ _ _ _ _ _)
      | (with_reducible exact ih1 _ _ _ _ _ _ _ _ _ _ _ _ _ _)
      | (with_reducible exact ih2 _ _ _ _ _ _ _ _ _ _ _ _ _ _)
      | (with_reducible exact prog_Check.mono _ _ _ _ _)
      | (with_reducible exact prog_Depth.mono _ _ _ _ _)
      | (with_reducible exact prog_Join.mono _ _ _ _ _ _ _ _ _)
      | (with_reducible exact swagelaw08_live.mono _)
      | (with_reducible exact swageref08_Join.mono _ _ _ _ _ _ _ _ _)
      | (with_reducible exact swageref08_Right.mono _ _ _ _ _)
      | (with_reducible exact swageref08_Same.mono _ _ _ _ _ _ _ _ _)
      | (with_reducible exact LeO.refl _)
      | (with_reducible exact LeO.none _)
      | (with_reducible refine LeO.ite ?_ ?_)
      | (with_reducible refine LeO.bind ?_ (fun _ => ?_))
      | exact ih0 _ _ _ _ _ _ _ _ _
      | exact ih1 _ _ _ _ _ _ _ _ _ _ _ _ _ _
      | exact ih2 _ _ _ _ _ _ _ _ _ _ _ _ _ _
      | exact prog_Check.mono _ _ _ _ _
      | exact prog_Depth.mono _ _ _ _ _
      | exact prog_Join.mono _ _ _ _ _ _ _ _ _
      | exact swagelaw08_live.mono _
      | exact swageref08_Join.mono _ _ _ _ _ _ _ _ _
      | exact swageref08_Right.mono _ _ _ _ _
      | exact swageref08_Same.mono _ _ _ _ _ _ _ _ _
      | exact LeO.none _
      | refine LeO.ite ?_ ?_
      | refine LeO.bind ?_ (fun _ => ?_)
theorem swagelaw08_ProgJoins.mono : ∀ a0 a1 a2 a3 a4 a5 a6 a7 k, LeO (swagelaw08_ProgJoins.f k a0 a1 a2 a3 a4 a5 a6 a7) (swagelaw08_ProgJoins.f (k + 1) a0 a1 a2 a3 a4 a5 a6 a7) := by
  intro a0 a1 a2 a3 a4 a5 a6 a7 k
  obtain ⟨ih0, ih1, ih2⟩ := swagelaw08_ProgJoins.mono_l k
  unfold swagelaw08_ProgJoins.f
  repeat' first
      | (with_reducible exact ih0 _ _ _ _ _ _ _ _ _)
      | (with_reducible exact ih1 _ _ _ _ _ _ _ _ _ _ _ _ _ _)
      | (with_reducible exact ih2 _ _ _ _ _ _ _ _ _ _ _ _ _ _)
      | (with_reducible exact prog_Check.mono _ _ _ _ _)
      | (with_reducible exact prog_Depth.mono _ _ _ _ _)
      | (with_reducible exact prog_Join.mono _ _ _ _ _ _ _ _ _)
      | (with_reducible exact swagelaw08_live.mono _)
      | (with_reducible exact swageref08_Join.mono _ _ _ _ _ _ _ _ _)
      | (with_reducible exact swageref08_Right.mono _ _ _ _ _)
      | (with_reducible exact swageref08_Same.mono _ _ _ _ _ _ _ _ _)
      | (with_reducible exact LeO.refl _)
      | (with_reducible exact LeO.none _)
      | (with_reducible refine LeO.ite ?_ ?_)
      | (with_reducible refine LeO.bind ?_ (fun _ => ?_))
      | exact ih0 _ _ _ _ _ _ _ _ _
      | exact ih1 _ _ _ _ _ _ _ _ _ _ _ _ _ _
      | exact ih2 _ _ _ _ _ _ _ _ _ _ _ _ _ _
      | exact prog_Check.mono _ _ _ _ _
      | exact prog_Depth.mono _ _ _ _ _
      | exact prog_Join.mono _ _ _ _ _ _ _ _ _
      | exact swagelaw08_live.mono _
      | exact swageref08_Join.mono _ _ _ _ _ _ _ _ _
      | exact swageref08_Right.mono _ _ _ _ _
      | exact swageref08_Same.mono _ _ _ _ _ _ _ _ _
      | exact LeO.none _
      | refine LeO.ite ?_ ?_
      | refine LeO.bind ?_ (fun _ => ?_)
set_option maxHeartbeats 8000000 in
set_option maxRecDepth 100000 in
theorem swagelaw08_ProgJoins.calls (k : Nat) (a0_0 : Int) (a0_1 : Int) (A0_2 : Option Addr) (c0_2 : Nat) (l0_2 : List (S37)) (A0_3 : Option Addr) (c0_3 : Nat) (l0_3 : List Int) (a1_0 : Int) (a1_1 : Int) (A1_2 : Option Addr) (c1_2 : Nat) (l1_2 : List (S37)) (A1_3 : Option Addr) (c1_3 : Nat) (l1_3 : List Int) (r : Bool) (w : World) (hr0_2 : Kd.C k37 w A0_2 l0_2.length l0_2) (hc0_2 : l0_2.length ≤ c0_2) (hr0_3 : Kd.C (Kd.int .i64) w A0_3 l0_3.length l0_3) (hc0_3 : l0_3.length ≤ c0_3) (hr1_2 : Kd.C k37 w A1_2 l1_2.length l1_2) (hc1_2 : l1_2.length ≤ c1_2) (hr1_3 : Kd.C (Kd.int .i64) w A1_3 l1_3.length l1_3) (hc1_3 : l1_3.length ≤ c1_3) (hT : Aside0 (r = true)) (h : swagelaw08_ProgJoins.f k a0_0 a0_1 l0_2 l0_3 a1_0 a1_1 l1_2 l1_3 = some r) :
    Calls Tryd.prog 6 #[.agg #[.int .i64 a0_0, .int .i64 a0_1, .slice A0_2 l0_2.length c0_2, .slice A0_3 l0_3.length c0_3], .agg #[.int .i64 a1_0, .int .i64 a1_1, .slice A1_2 l1_2.length c1_2, .slice A1_3 l1_3.length c1_3]] w fun e w' => e = .returned (.bool r) ∧ Below w.heap.size w w' := by
  have hu25 := Tryd.underlying25
  have HR0_2 := Aside0.mk hr0_2
  have HC0_2 := Aside0.mk hc0_2
  clear hr0_2 hc0_2
  have HR0_3 := Aside0.mk hr0_3
  have HC0_3 := Aside0.mk hc0_3
  clear hr0_3 hc0_3
  have HR1_2 := Aside0.mk hr1_2
  have HC1_2 := Aside0.mk hc1_2
  clear hr1_2 hc1_2
  have HR1_3 := Aside0.mk hr1_3
  have HC1_3 := Aside0.mk hc1_3
  clear hr1_3 hc1_3
  have HB := Aside0.mk (Below.refl w.heap.size w)
  have H : ((swagelaw08_live.f k).bind fun t325 => (if t325 = true then ((swagelaw08_long.f a0_0 a0_1 l0_2 l0_3).bind fun t326 => (if t326 = true then (swagelaw08_ProgJoins.j0 k true a0_0 a0_1 l0_2 l0_3 a1_0 a1_1 l1_2 l1_3) else ((swagelaw08_long.f a1_0 a1_1 l1_2 l1_3).bind fun t327 => (swagelaw08_ProgJoins.j0 k t327 a0_0 a0_1 l0_2 l0_3 a1_0 a1_1 l1_2 l1_3)))) else (some false))) = some r := h
  clear h
  replace H := Option.bind_eq_some_iff.mp H
  obtain ⟨t325, A30, H⟩ := H
  replace H : (if t325 = true then ((swagelaw08_long.f a0_0 a0_1 l0_2 l0_3).bind fun t326 => (if t326 = true then (swagelaw08_ProgJoins.j0 k true a0_0 a0_1 l0_2 l0_3 a1_0 a1_1 l1_2 l1_3) else ((swagelaw08_long.f a1_0 a1_1 l1_2 l1_3).bind fun t327 => (swagelaw08_ProgJoins.j0 k t327 a0_0 a0_1 l0_2 l0_3 a1_0 a1_1 l1_2 l1_3)))) else (some false)) = some r := H
  have A3 := Aside0.mk A30
  clear A30
  by_cases c4 : t325 = true
  · subst c4
    have H1 : ((swagelaw08_long.f a0_0 a0_1 l0_2 l0_3).bind fun t326 => (if t326 = true then (swagelaw08_ProgJoins.j0 k true a0_0 a0_1 l0_2 l0_3 a1_0 a1_1 l1_2 l1_3) else ((swagelaw08_long.f a1_0 a1_1 l1_2 l1_3).bind fun t327 => (swagelaw08_ProgJoins.j0 k t327 a0_0 a0_1 l0_2 l0_3 a1_0 a1_1 l1_2 l1_3)))) = some r := by rw [if_pos rfl] at H; exact H
    clear H
    have H := H1
    clear H1
    have HC5 := Aside0.mk H
    clear H
    go_enter Tryd.func6, Tryd.ntmps6
    go_upto_region 3 with (first | ((with_reducible refine gate_dst (N := 2) rfl ?_); refine box_event ?hg (N := 2) ?hd (cs := #[.int .i64 a0_0, .int .i64 a0_1, .slice A0_2 l0_2.length c0_2, .slice A0_3 l0_3.length c0_3]) (t := 25) ?hr ?_; (case hd => rfl); (case hg => rfl); (case hr => first | (go_simp; done) | (go_simp; rfl)); intro gb323 hg w6 hbox hb; have n0_ := Aside0.mk (below_step (by repeat (first | (with_reducible first | exact HB.out | apply below_alloc | apply pw_below_drewN | apply below_drew1) | exact HB.out)) hb); have n1_ := Aside0.mk (hbox); have n2_ := Aside0.mk ((by rw [hg]; exact (below_size (by repeat (first | (with_reducible first | exact HB.out | apply below_alloc | apply pw_below_drewN | apply below_drew1) | exact HB.out))) : w.heap.size ≤ gb323)); have n3_ := Aside0.mk ((by rw [hg]; exact (below_size (by repeat (first | (with_reducible first | exact HB.out | apply below_alloc | apply pw_below_drewN | apply below_drew1) | exact HB.out))) : w.heap.size ≤ gb323)); clear HB; have HB := n0_; have BK323 := n1_; have GW323 := n2_; have GE323 := n3_; clear n0_ n1_ n2_ n3_; clear hb hbox hg) | ((with_reducible refine gate_dst (N := 3) rfl ?_); refine box_event ?hg (N := 3) ?hd (cs := #[.int .i64 a1_0, .int .i64 a1_1, .slice A1_2 l1_2.length c1_2, .slice A1_3 l1_3.length c1_3]) (t := 25) ?hr ?_; (case hd => rfl); (case hg => rfl); (case hr => first | (go_simp; done) | (go_simp; rfl)); intro gb324 hg w7 hbox hb; have n0_ := Aside0.mk (blk_below (g := gb323) (o := .cells #[.int .i64 a0_0, .int .i64 a0_1, .slice A0_2 l0_2.length c0_2, .slice A0_3 l0_3.length c0_3] 25 (0, 0)) (by (with_reducible repeat (first | refine blk_drewN ?_ _ | refine blk_drew ?_ | refine blk_alloc ?_ _)); exact BK323.out) hb); have n1_ := Aside0.mk (below_step (by repeat (first | (with_reducible first | exact HB.out | apply below_alloc | apply pw_below_drewN | apply below_drew1 | refine below_set ?_ GE323.out) | exact HB.out)) hb); have n2_ := Aside0.mk (hbox); have n3_ := Aside0.mk ((by rw [hg]; exact (below_size (by repeat (first | (with_reducible first | exact HB.out | apply below_alloc | apply pw_below_drewN | apply below_drew1 | refine below_set ?_ GE323.out) | exact HB.out))) : w.heap.size ≤ gb324)); have n4_ := Aside0.mk ((by rw [hg]; exact (below_size (by repeat (first | (with_reducible first | exact HB.out | apply below_alloc | apply pw_below_drewN | apply below_drew1 | refine below_set ?_ GE323.out) | exact HB.out))) : w.heap.size ≤ gb324)); have n5_ := Aside0.mk ((by rw [hg]; exact Nat.ne_of_lt (blk_lt (g := gb323) (o := .cells #[.int .i64 a0_0, .int .i64 a0_1, .slice A0_2 l0_2.length c0_2, .slice A0_3 l0_3.length c0_3] 25 (0, 0)) (by (with_reducible repeat (first | refine blk_drewN ?_ _ | refine blk_drew ?_ | refine blk_alloc ?_ _)); exact BK323.out)) : gb323 ≠ gb324)); have n6_ := Aside0.mk ((by rw [hg]; exact Nat.ne_of_gt (blk_lt (g := gb323) (o := .cells #[.int .i64 a0_0, .int .i64 a0_1, .slice A0_2 l0_2.length c0_2, .slice A0_3 l0_3.length c0_3] 25 (0, 0)) (by (with_reducible repeat (first | refine blk_drewN ?_ _ | refine blk_drew ?_ | refine blk_alloc ?_ _)); exact BK323.out)) : gb324 ≠ gb323)); clear BK323; clear HB; have BK323 := n0_; have HB := n1_; have BK324 := n2_; have GW324 := n3_; have GE324 := n4_; have NB323_324 := n5_; have NB324_323 := n6_; clear n0_ n1_ n2_ n3_ n4_ n5_ n6_; clear hb hbox hg) | ((with_reducible refine gate_callee (f := 10) rfl ?_); refine goesL_ (some 19) rfl rfl Tryd.func10 (by kernel_rfl) rfl #[] rfl (by (try simp only [List.map_toArray, List.map_cons, List.map_nil]); first | done | rfl | (simp only [List.length_drop, List.length_take]; rfl)) ?_; (with_reducible refine (swagelaw08_live.calls k  true _ A3.out).mono ?_); rintro e w8 ⟨rfl, hb⟩; refine ⟨_, rfl, ?_⟩; have n0_ := Aside0.mk (blk_below (g := gb323) (o := .cells #[.int .i64 a0_0, .int .i64 a0_1, .slice A0_2 l0_2.length c0_2, .slice A0_3 l0_3.length c0_3] 25 (0, 0)) (by (with_reducible repeat (first | refine blk_drewN ?_ _ | refine blk_drew ?_ | refine blk_alloc ?_ _)); exact BK323.out) hb); have n1_ := Aside0.mk (blk_below (g := gb324) (o := .cells #[.int .i64 a1_0, .int .i64 a1_1, .slice A1_2 l1_2.length c1_2, .slice A1_3 l1_3.length c1_3] 25 (0, 0)) (by (with_reducible repeat (first | refine blk_drewN ?_ _ | refine blk_drew ?_ | refine blk_alloc ?_ _)); exact BK324.out) hb); have n2_ := Aside0.mk (below_step (by repeat (first | (with_reducible first | exact HB.out | apply below_alloc | apply pw_below_drewN | apply below_drew1 | refine below_set ?_ GE323.out | refine below_set ?_ GE324.out) | exact HB.out)) hb); clear BK323; clear BK324; clear HB; have BK323 := n0_; have BK324 := n1_; have HB := n2_; clear n0_ n1_ n2_; (try clear hb); (try clear hb2); (try clear hk); (try clear hi)))
    (try simp only [Act.put, List.setIfInBounds_toArray, List.set_cons_zero, List.set_cons_succ])
    go_cut [26] (fun v26 wc => ∃ (kq : Nat) (x26_4 : Bool), v26 = .bool x26_4 ∧ Aside0 (swagelaw08_ProgJoins.j0 kq x26_4 a0_0 a0_1 l0_2 l0_3 a1_0 a1_1 l1_2 l1_3 = some r) ∧ Aside0 (kq ≤ k) ∧ Aside0 (wc.heap[gb323]? = some (.cells #[.int .i64 a0_0, .int .i64 a0_1, (.slice A0_2 l0_2.length c0_2), (.slice A0_3 l0_3.length c0_3)] 25 (0, 0))) ∧ Aside0 (wc.heap[gb324]? = some (.cells #[.int .i64 a1_0, .int .i64 a1_1, (.slice A1_2 l1_2.length c1_2), (.slice A1_3 l1_3.length c1_3)] 25 (0, 0))) ∧ Aside0 (Below w.heap.size w wc))
    case first =>
      have H := HC5.out
      clear HC5
      replace H := Option.bind_eq_some_iff.mp H
      obtain ⟨t326, A90, H⟩ := H
      replace H : (if t326 = true then (swagelaw08_ProgJoins.j0 k true a0_0 a0_1 l0_2 l0_3 a1_0 a1_1 l1_2 l1_3) else ((swagelaw08_long.f a1_0 a1_1 l1_2 l1_3).bind fun t327 => (swagelaw08_ProgJoins.j0 k t327 a0_0 a0_1 l0_2 l0_3 a1_0 a1_1 l1_2 l1_3))) = some r := H
      have A9 := Aside0.mk A90
      clear A90
      by_cases c10 : t326 = true
      · subst c10
        have H1 : (swagelaw08_ProgJoins.j0 k true a0_0 a0_1 l0_2 l0_3 a1_0 a1_1 l1_2 l1_3) = some r := by rw [if_pos rfl] at H; exact H
        clear H
        have H := H1
        clear H1
        have H' := Aside0.mk H
        clear H
        have hnb11 := NB323_324.out
        have hnc11 := NB324_323.out
        have hcz12_0 : w8.cell? ⟨gb323, 0, none⟩ = some (.int .i64 a0_0) := (blk_cell BK323.out 0).trans rfl
        have hcz12_1 : w8.cell? ⟨gb323, 1, none⟩ = some (.int .i64 a0_1) := (blk_cell BK323.out 1).trans rfl
        have hcz12_2 : w8.cell? ⟨gb323, 2, none⟩ = some (.slice A0_2 l0_2.length c0_2) := (blk_cell BK323.out 2).trans rfl
        have hcz12_3 : w8.cell? ⟨gb323, 3, none⟩ = some (.slice A0_3 l0_3.length c0_3) := (blk_cell BK323.out 3).trans rfl
        have hfz12_0 := blk_frozen BK323.out 0
        have hfz12_1 := blk_frozen BK323.out 1
        have hfz12_2 := blk_frozen BK323.out 2
        have hfz12_3 := blk_frozen BK323.out 3
        go_wp2_with (first | ((with_reducible refine gate_callee (f := 13) rfl ?_); refine goesL_ (some 22) rfl rfl Tryd.func13 (by kernel_rfl) rfl #[.agg #[.int .i64 a0_0, .int .i64 a0_1, .slice A0_2 l0_2.length c0_2, .slice A0_3 l0_3.length c0_3]] rfl (by (try simp only [List.map_toArray, List.map_cons, List.map_nil]); first | done | rfl | (simp only [List.length_drop, List.length_take]; rfl)) ?_; (with_reducible refine (swagelaw08_long.calls a0_0 a0_1 _ _ l0_2 _ _ l0_3 true _ ?side1 ?side2 ?side3 ?side4 A9.out).mono ?_); (case side1 => repeat (first | exact (Kd.C_below HR0_2.out HB.out) | (with_reducible refine Kd.C_alloc ?_ _) | (with_reducible refine Kd.C_drewN ?_ _) | (with_reducible refine Kd.C_drew ?_))); (case side2 => exact HC0_2.out); (case side3 => repeat (first | exact (Kd.C_below HR0_3.out HB.out) | (with_reducible refine Kd.C_alloc ?_ _) | (with_reducible refine Kd.C_drewN ?_ _) | (with_reducible refine Kd.C_drew ?_))); (case side4 => exact HC0_3.out); rintro e w13 ⟨rfl, hb⟩; refine ⟨_, rfl, ?_⟩; have n0_ := Aside0.mk (blk_below (g := gb323) (o := .cells #[.int .i64 a0_0, .int .i64 a0_1, .slice A0_2 l0_2.length c0_2, .slice A0_3 l0_3.length c0_3] 25 (0, 0)) (by (with_reducible repeat (first | refine blk_drewN ?_ _ | refine blk_drew ?_ | refine blk_alloc ?_ _)); exact BK323.out) hb); have n1_ := Aside0.mk (blk_below (g := gb324) (o := .cells #[.int .i64 a1_0, .int .i64 a1_1, .slice A1_2 l1_2.length c1_2, .slice A1_3 l1_3.length c1_3] 25 (0, 0)) (by (with_reducible repeat (first | refine blk_drewN ?_ _ | refine blk_drew ?_ | refine blk_alloc ?_ _)); exact BK324.out) hb); have n2_ := Aside0.mk (below_step (by repeat (first | (with_reducible first | exact HB.out | apply below_alloc | apply pw_below_drewN | apply below_drew1 | refine below_set ?_ GE323.out | refine below_set ?_ GE324.out) | exact HB.out)) hb); clear BK323; clear BK324; clear HB; have BK323 := n0_; have BK324 := n1_; have HB := n2_; clear n0_ n1_ n2_; (try clear hb); (try clear hb2); (try clear hk); (try clear hi)))
        go_meet
        case rel => exact ⟨_, (true), (by first | rfl | (simp; done) | (simp [*]; done)), H', ⟨by first | omega | exact Nat.le_refl _⟩, ⟨by (with_reducible repeat (first | refine blk_drewN ?_ _ | refine blk_drew ?_ | refine blk_alloc ?_ _)); exact BK323.out⟩, ⟨by (with_reducible repeat (first | refine blk_drewN ?_ _ | refine blk_drew ?_ | refine blk_alloc ?_ _)); exact BK324.out⟩, ⟨by repeat (first | (with_reducible first | exact HB.out | apply below_alloc | apply pw_below_drewN | apply below_drew1 | refine below_set ?_ GE323.out | refine below_set ?_ GE324.out) | exact HB.out)⟩⟩
      · replace c10 := Bool.eq_false_iff.mpr c10
        subst c10
        have H1 : ((swagelaw08_long.f a1_0 a1_1 l1_2 l1_3).bind fun t327 => (swagelaw08_ProgJoins.j0 k t327 a0_0 a0_1 l0_2 l0_3 a1_0 a1_1 l1_2 l1_3)) = some r := by rw [if_neg (show ¬ (false = true) by decide)] at H; exact H
        clear H
        have H := H1
        clear H1
        replace H := Option.bind_eq_some_iff.mp H
        obtain ⟨t327, A140, H⟩ := H
        replace H : (swagelaw08_ProgJoins.j0 k t327 a0_0 a0_1 l0_2 l0_3 a1_0 a1_1 l1_2 l1_3) = some r := H
        have A14 := Aside0.mk A140
        clear A140
        have H' := Aside0.mk H
        clear H
        have hnb15 := NB323_324.out
        have hnc15 := NB324_323.out
        have hcz16_0 : w8.cell? ⟨gb323, 0, none⟩ = some (.int .i64 a0_0) := (blk_cell BK323.out 0).trans rfl
        have hcz16_1 : w8.cell? ⟨gb323, 1, none⟩ = some (.int .i64 a0_1) := (blk_cell BK323.out 1).trans rfl
        have hcz16_2 : w8.cell? ⟨gb323, 2, none⟩ = some (.slice A0_2 l0_2.length c0_2) := (blk_cell BK323.out 2).trans rfl
        have hcz16_3 : w8.cell? ⟨gb323, 3, none⟩ = some (.slice A0_3 l0_3.length c0_3) := (blk_cell BK323.out 3).trans rfl
        have hfz16_0 := blk_frozen BK323.out 0
        have hfz16_1 := blk_frozen BK323.out 1
        have hfz16_2 := blk_frozen BK323.out 2
        have hfz16_3 := blk_frozen BK323.out 3
        go_wp2_with (first | ((with_reducible refine gate_callee (f := 13) rfl ?_); refine goesL_ (some 22) rfl rfl Tryd.func13 (by kernel_rfl) rfl #[.agg #[.int .i64 a0_0, .int .i64 a0_1, .slice A0_2 l0_2.length c0_2, .slice A0_3 l0_3.length c0_3]] rfl (by (try simp only [List.map_toArray, List.map_cons, List.map_nil]); first | done | rfl | (simp only [List.length_drop, List.length_take]; rfl)) ?_; (with_reducible refine (swagelaw08_long.calls a0_0 a0_1 _ _ l0_2 _ _ l0_3 false _ ?side1 ?side2 ?side3 ?side4 A9.out).mono ?_); (case side1 => repeat (first | exact (Kd.C_below HR0_2.out HB.out) | (with_reducible refine Kd.C_alloc ?_ _) | (with_reducible refine Kd.C_drewN ?_ _) | (with_reducible refine Kd.C_drew ?_))); (case side2 => exact HC0_2.out); (case side3 => repeat (first | exact (Kd.C_below HR0_3.out HB.out) | (with_reducible refine Kd.C_alloc ?_ _) | (with_reducible refine Kd.C_drewN ?_ _) | (with_reducible refine Kd.C_drew ?_))); (case side4 => exact HC0_3.out); rintro e w17 ⟨rfl, hb⟩; refine ⟨_, rfl, ?_⟩; have n0_ := Aside0.mk (blk_below (g := gb323) (o := .cells #[.int .i64 a0_0, .int .i64 a0_1, .slice A0_2 l0_2.length c0_2, .slice A0_3 l0_3.length c0_3] 25 (0, 0)) (by (with_reducible repeat (first | refine blk_drewN ?_ _ | refine blk_drew ?_ | refine blk_alloc ?_ _)); exact BK323.out) hb); have n1_ := Aside0.mk (blk_below (g := gb324) (o := .cells #[.int .i64 a1_0, .int .i64 a1_1, .slice A1_2 l1_2.length c1_2, .slice A1_3 l1_3.length c1_3] 25 (0, 0)) (by (with_reducible repeat (first | refine blk_drewN ?_ _ | refine blk_drew ?_ | refine blk_alloc ?_ _)); exact BK324.out) hb); have n2_ := Aside0.mk (below_step (by repeat (first | (with_reducible first | exact HB.out | apply below_alloc | apply pw_below_drewN | apply below_drew1 | refine below_set ?_ GE323.out | refine below_set ?_ GE324.out) | exact HB.out)) hb); clear BK323; clear BK324; clear HB; have BK323 := n0_; have BK324 := n1_; have HB := n2_; clear n0_ n1_ n2_; (try clear hb); (try clear hb2); (try clear hk); (try clear hi); have hcz18_0 : w17.cell? ⟨gb324, 0, none⟩ = some (.int .i64 a1_0) := (blk_cell BK324.out 0).trans rfl; have hcz18_1 : w17.cell? ⟨gb324, 1, none⟩ = some (.int .i64 a1_1) := (blk_cell BK324.out 1).trans rfl; have hcz18_2 : w17.cell? ⟨gb324, 2, none⟩ = some (.slice A1_2 l1_2.length c1_2) := (blk_cell BK324.out 2).trans rfl; have hcz18_3 : w17.cell? ⟨gb324, 3, none⟩ = some (.slice A1_3 l1_3.length c1_3) := (blk_cell BK324.out 3).trans rfl; have hfz18_0 := blk_frozen BK324.out 0; have hfz18_1 := blk_frozen BK324.out 1; have hfz18_2 := blk_frozen BK324.out 2; have hfz18_3 := blk_frozen BK324.out 3) | (go_at_call 13; (with_reducible refine (swagelaw08_long.calls a1_0 a1_1 _ _ l1_2 _ _ l1_3 t327 _ ?side1 ?side2 ?side3 ?side4 A14.out).mono ?_); (case side1 => repeat (first | exact (Kd.C_below HR1_2.out HB.out) | (with_reducible refine Kd.C_alloc ?_ _) | (with_reducible refine Kd.C_drewN ?_ _) | (with_reducible refine Kd.C_drew ?_))); (case side2 => exact HC1_2.out); (case side3 => repeat (first | exact (Kd.C_below HR1_3.out HB.out) | (with_reducible refine Kd.C_alloc ?_ _) | (with_reducible refine Kd.C_drewN ?_ _) | (with_reducible refine Kd.C_drew ?_))); (case side4 => exact HC1_3.out); rintro e w19 ⟨rfl, hb⟩; have n0_ := Aside0.mk (blk_below (g := gb323) (o := .cells #[.int .i64 a0_0, .int .i64 a0_1, .slice A0_2 l0_2.length c0_2, .slice A0_3 l0_3.length c0_3] 25 (0, 0)) (by (with_reducible repeat (first | refine blk_drewN ?_ _ | refine blk_drew ?_ | refine blk_alloc ?_ _)); exact BK323.out) hb); have n1_ := Aside0.mk (blk_below (g := gb324) (o := .cells #[.int .i64 a1_0, .int .i64 a1_1, .slice A1_2 l1_2.length c1_2, .slice A1_3 l1_3.length c1_3] 25 (0, 0)) (by (with_reducible repeat (first | refine blk_drewN ?_ _ | refine blk_drew ?_ | refine blk_alloc ?_ _)); exact BK324.out) hb); have n2_ := Aside0.mk (below_step (by repeat (first | (with_reducible first | exact HB.out | apply below_alloc | apply pw_below_drewN | apply below_drew1 | refine below_set ?_ GE323.out | refine below_set ?_ GE324.out) | exact HB.out)) hb); clear BK323; clear BK324; clear HB; have BK323 := n0_; have BK324 := n1_; have HB := n2_; clear n0_ n1_ n2_; (try clear hb); (try clear hb2); (try clear hk); (try clear hi)))
        go_meet
        case rel => exact ⟨_, (t327), (by first | rfl | (simp; done) | (simp [*]; done)), H', ⟨by first | omega | exact Nat.le_refl _⟩, ⟨by (with_reducible repeat (first | refine blk_drewN ?_ _ | refine blk_drew ?_ | refine blk_alloc ?_ _)); exact BK323.out⟩, ⟨by (with_reducible repeat (first | refine blk_drewN ?_ _ | refine blk_drew ?_ | refine blk_alloc ?_ _)); exact BK324.out⟩, ⟨by repeat (first | (with_reducible first | exact HB.out | apply below_alloc | apply pw_below_drewN | apply below_drew1 | refine below_set ?_ GE323.out | refine below_set ?_ GE324.out) | exact HB.out)⟩⟩
    case rest =>
      clear HC5
      try clear c4
      obtain ⟨kq, x26_4, rfl, HA, HJ4, BK323, BK324, HB⟩ := hcut
      cases kq with
      | zero => exact absurd HA.out (by simp [swagelaw08_ProgJoins.j0])
      | succ kj4 =>
        have H := HA.out
        clear HA
        simp only [swagelaw08_ProgJoins.j0] at H
        by_cases c20 : x26_4 = true
        · subst c20
          have H1 : (some true) = some r := by rw [if_pos rfl] at H; exact H
          clear H
          have H := H1
          clear H1
          obtain rfl := Option.some.inj H
          go_wp2
          go_ret
          exact ⟨by first | rfl | (simp [errW_none, errW_some] <;> rfl) | (simp [*, errW_none, errW_some] <;> rfl), by repeat (first | (with_reducible first | exact HB.out | apply below_alloc | apply pw_below_drewN | apply below_drew1 | refine below_set ?_ GE323.out | refine below_set ?_ GE324.out) | exact HB.out)⟩
        · replace c20 := Bool.eq_false_iff.mpr c20
          subst c20
          have H1 : ((prog_Join.f kj4 a0_0 a0_1 l0_2 l0_3 a1_0 a1_1 l1_2 l1_3).bind fun bt328 => ((swageref08_Right.f kj4 a0_0 a0_1 l0_2 l0_3).bind fun t338 => ((swageref08_Right.f kj4 a1_0 a1_1 l1_2 l1_3).bind fun t339 => (if t338 = true then (swagelaw08_ProgJoins.j1 kj4 bt328.2.2.2.2 (!t339) a0_0 a0_1 l0_2 l0_3 a1_0 a1_1 l1_2 l1_3 bt328.1 bt328.2.1 bt328.2.2.1 bt328.2.2.2.1) else (swagelaw08_ProgJoins.j1 kj4 bt328.2.2.2.2 true a0_0 a0_1 l0_2 l0_3 a1_0 a1_1 l1_2 l1_3 bt328.1 bt328.2.1 bt328.2.2.1 bt328.2.2.2.1))))) = some r := by rw [if_neg (show ¬ (false = true) by decide)] at H; exact H
          clear H
          have H := H1
          clear H1
          replace H := Option.bind_eq_some_iff.mp H
          obtain ⟨⟨t328, t329, t330, t333, t336⟩, A210, H⟩ := H
          replace H : ((swageref08_Right.f kj4 a0_0 a0_1 l0_2 l0_3).bind fun t338 => ((swageref08_Right.f kj4 a1_0 a1_1 l1_2 l1_3).bind fun t339 => (if t338 = true then (swagelaw08_ProgJoins.j1 kj4 t336 (!t339) a0_0 a0_1 l0_2 l0_3 a1_0 a1_1 l1_2 l1_3 t328 t329 t330 t333) else (swagelaw08_ProgJoins.j1 kj4 t336 true a0_0 a0_1 l0_2 l0_3 a1_0 a1_1 l1_2 l1_3 t328 t329 t330 t333)))) = some r := H
          have A21 := Aside0.mk A210
          clear A210
          replace H := Option.bind_eq_some_iff.mp H
          obtain ⟨t338, A220, H⟩ := H
          replace H : ((swageref08_Right.f kj4 a1_0 a1_1 l1_2 l1_3).bind fun t339 => (if t338 = true then (swagelaw08_ProgJoins.j1 kj4 t336 (!t339) a0_0 a0_1 l0_2 l0_3 a1_0 a1_1 l1_2 l1_3 t328 t329 t330 t333) else (swagelaw08_ProgJoins.j1 kj4 t336 true a0_0 a0_1 l0_2 l0_3 a1_0 a1_1 l1_2 l1_3 t328 t329 t330 t333))) = some r := H
          have A22 := Aside0.mk A220
          clear A220
          replace H := Option.bind_eq_some_iff.mp H
          obtain ⟨t339, A230, H⟩ := H
          replace H : (if t338 = true then (swagelaw08_ProgJoins.j1 kj4 t336 (!t339) a0_0 a0_1 l0_2 l0_3 a1_0 a1_1 l1_2 l1_3 t328 t329 t330 t333) else (swagelaw08_ProgJoins.j1 kj4 t336 true a0_0 a0_1 l0_2 l0_3 a1_0 a1_1 l1_2 l1_3 t328 t329 t330 t333)) = some r := H
          have A23 := Aside0.mk A230
          clear A230
          have HC24 := Aside0.mk H
          clear H
          have hnb25 := NB323_324.out
          have hnc25 := NB324_323.out
          have hcz26_0 : wc.cell? ⟨gb323, 0, none⟩ = some (.int .i64 a0_0) := (blk_cell BK323.out 0).trans rfl
          have hcz26_1 : wc.cell? ⟨gb323, 1, none⟩ = some (.int .i64 a0_1) := (blk_cell BK323.out 1).trans rfl
          have hcz26_2 : wc.cell? ⟨gb323, 2, none⟩ = some (.slice A0_2 l0_2.length c0_2) := (blk_cell BK323.out 2).trans rfl
          have hcz26_3 : wc.cell? ⟨gb323, 3, none⟩ = some (.slice A0_3 l0_3.length c0_3) := (blk_cell BK323.out 3).trans rfl
          have hfz26_0 := blk_frozen BK323.out 0
          have hfz26_1 := blk_frozen BK323.out 1
          have hfz26_2 := blk_frozen BK323.out 2
          have hfz26_3 := blk_frozen BK323.out 3
          have hcz27_0 : wc.cell? ⟨gb324, 0, none⟩ = some (.int .i64 a1_0) := (blk_cell BK324.out 0).trans rfl
          have hcz27_1 : wc.cell? ⟨gb324, 1, none⟩ = some (.int .i64 a1_1) := (blk_cell BK324.out 1).trans rfl
          have hcz27_2 : wc.cell? ⟨gb324, 2, none⟩ = some (.slice A1_2 l1_2.length c1_2) := (blk_cell BK324.out 2).trans rfl
          have hcz27_3 : wc.cell? ⟨gb324, 3, none⟩ = some (.slice A1_3 l1_3.length c1_3) := (blk_cell BK324.out 3).trans rfl
          have hfz27_0 := blk_frozen BK324.out 0
          have hfz27_1 := blk_frozen BK324.out 1
          have hfz27_2 := blk_frozen BK324.out 2
          have hfz27_3 := blk_frozen BK324.out 3
          try go_wp2_with (first | ((with_reducible refine gate_callee (f := 22) rfl ?_); refine goesL_ (some 30) rfl rfl Tryd.func22 (by kernel_rfl) rfl #[.agg #[.int .i64 a0_0, .int .i64 a0_1, .slice A0_2 l0_2.length c0_2, .slice A0_3 l0_3.length c0_3], .agg #[.int .i64 a1_0, .int .i64 a1_1, .slice A1_2 l1_2.length c1_2, .slice A1_3 l1_3.length c1_3]] rfl (by (try simp only [List.map_toArray, List.map_cons, List.map_nil]); first | done | rfl | (simp only [List.length_drop, List.length_take]; rfl)) ?_; (with_reducible refine (prog_Join.calls kj4 a0_0 a0_1 _ _ l0_2 _ _ l0_3 a1_0 a1_1 _ _ l1_2 _ _ l1_3 t328 t329 t330 t333 t336 _ ?side1 ?side2 ?side3 ?side4 ?side5 ?side6 ?side7 ?side8 A21.out).mono ?_); (case side1 => repeat (first | exact (Kd.C_below HR0_2.out HB.out) | (with_reducible refine Kd.C_alloc ?_ _) | (with_reducible refine Kd.C_drewN ?_ _) | (with_reducible refine Kd.C_drew ?_))); (case side2 => exact HC0_2.out); (case side3 => repeat (first | exact (Kd.C_below HR0_3.out HB.out) | (with_reducible refine Kd.C_alloc ?_ _) | (with_reducible refine Kd.C_drewN ?_ _) | (with_reducible refine Kd.C_drew ?_))); (case side4 => exact HC0_3.out); (case side5 => repeat (first | exact (Kd.C_below HR1_2.out HB.out) | (with_reducible refine Kd.C_alloc ?_ _) | (with_reducible refine Kd.C_drewN ?_ _) | (with_reducible refine Kd.C_drew ?_))); (case side6 => exact HC1_2.out); (case side7 => repeat (first | exact (Kd.C_below HR1_3.out HB.out) | (with_reducible refine Kd.C_alloc ?_ _) | (with_reducible refine Kd.C_drewN ?_ _) | (with_reducible refine Kd.C_drew ?_))); (case side8 => exact HC1_3.out); rintro e w28 ⟨v331, v334, rfl, ho0, ho1, hb⟩; refine ⟨_, rfl, ?_⟩; have n0_ := Aside0.mk (Kd.R_lower ho0 (below_size (by repeat (first | (with_reducible first | exact HB.out | apply below_alloc | apply pw_below_drewN | apply below_drew1 | refine below_set ?_ GE323.out | refine below_set ?_ GE324.out) | exact HB.out)))); have n1_ := Aside0.mk (Kd.R_lower ho1 (below_size (by repeat (first | (with_reducible first | exact HB.out | apply below_alloc | apply pw_below_drewN | apply below_drew1 | refine below_set ?_ GE323.out | refine below_set ?_ GE324.out) | exact HB.out)))); have n2_ := Aside0.mk (blk_below (g := gb323) (o := .cells #[.int .i64 a0_0, .int .i64 a0_1, .slice A0_2 l0_2.length c0_2, .slice A0_3 l0_3.length c0_3] 25 (0, 0)) (by (with_reducible repeat (first | refine blk_drewN ?_ _ | refine blk_drew ?_ | refine blk_alloc ?_ _)); exact BK323.out) hb); have n3_ := Aside0.mk (blk_below (g := gb324) (o := .cells #[.int .i64 a1_0, .int .i64 a1_1, .slice A1_2 l1_2.length c1_2, .slice A1_3 l1_3.length c1_3] 25 (0, 0)) (by (with_reducible repeat (first | refine blk_drewN ?_ _ | refine blk_drew ?_ | refine blk_alloc ?_ _)); exact BK324.out) hb); have n4_ := Aside0.mk (below_step (by repeat (first | (with_reducible first | exact HB.out | apply below_alloc | apply pw_below_drewN | apply below_drew1 | refine below_set ?_ GE323.out | refine below_set ?_ GE324.out) | exact HB.out)) hb); clear BK323; clear BK324; clear HB; have HO332 := n0_; have HO335 := n1_; have BK323 := n2_; have BK324 := n3_; have HB := n4_; clear n0_ n1_ n2_ n3_ n4_; (try clear hb); (try clear hb2); (try clear hk); (try clear hi); (try clear ho0); (try clear ho1)) | ((with_reducible refine gate_dst (N := 5) rfl ?_); refine box_event ?hg (N := 5) ?hd (cs := #[.int .i64 0, .int .i64 0, .slice none 0 0, .slice none 0 0]) (t := 25) ?hr ?_; (case hd => rfl); (case hg => rfl); (case hr => first | (go_simp; done) | (go_simp; rfl)); intro gb337 hg w29 hbox hb; have n0_ := Aside0.mk (Kd.R_below (by (with_reducible repeat (first | apply Kd.R_alloc | apply Kd.R_drewN | apply Kd.R_drew)); exact HO332.out) hb); have n1_ := Aside0.mk (Kd.R_below (by (with_reducible repeat (first | apply Kd.R_alloc | apply Kd.R_drewN | apply Kd.R_drew)); exact HO335.out) hb); have n2_ := Aside0.mk (blk_below (g := gb323) (o := .cells #[.int .i64 a0_0, .int .i64 a0_1, .slice A0_2 l0_2.length c0_2, .slice A0_3 l0_3.length c0_3] 25 (0, 0)) (by (with_reducible repeat (first | refine blk_drewN ?_ _ | refine blk_drew ?_ | refine blk_alloc ?_ _)); exact BK323.out) hb); have n3_ := Aside0.mk (blk_below (g := gb324) (o := .cells #[.int .i64 a1_0, .int .i64 a1_1, .slice A1_2 l1_2.length c1_2, .slice A1_3 l1_3.length c1_3] 25 (0, 0)) (by (with_reducible repeat (first | refine blk_drewN ?_ _ | refine blk_drew ?_ | refine blk_alloc ?_ _)); exact BK324.out) hb); have n4_ := Aside0.mk (below_step (by repeat (first | (with_reducible first | exact HB.out | apply below_alloc | apply pw_below_drewN | apply below_drew1 | refine below_set ?_ GE323.out | refine below_set ?_ GE324.out) | exact HB.out)) hb); have n5_ := Aside0.mk (hbox); have n6_ := Aside0.mk ((by rw [hg]; exact (below_size (by repeat (first | (with_reducible first | exact HB.out | apply below_alloc | apply pw_below_drewN | apply below_drew1 | refine below_set ?_ GE323.out | refine below_set ?_ GE324.out) | exact HB.out))) : w.heap.size ≤ gb337)); have n7_ := Aside0.mk ((by rw [hg]; exact (below_size (by repeat (first | (with_reducible first | exact HB.out | apply below_alloc | apply pw_below_drewN | apply below_drew1 | refine below_set ?_ GE323.out | refine below_set ?_ GE324.out) | exact HB.out))) : w.heap.size ≤ gb337)); have n8_ := Aside0.mk ((by rw [hg]; exact Nat.ne_of_lt (blk_lt (g := gb323) (o := .cells #[.int .i64 a0_0, .int .i64 a0_1, .slice A0_2 l0_2.length c0_2, .slice A0_3 l0_3.length c0_3] 25 (0, 0)) (by (with_reducible repeat (first | refine blk_drewN ?_ _ | refine blk_drew ?_ | refine blk_alloc ?_ _)); exact BK323.out)) : gb323 ≠ gb337)); have n9_ := Aside0.mk ((by rw [hg]; exact Nat.ne_of_gt (blk_lt (g := gb323) (o := .cells #[.int .i64 a0_0, .int .i64 a0_1, .slice A0_2 l0_2.length c0_2, .slice A0_3 l0_3.length c0_3] 25 (0, 0)) (by (with_reducible repeat (first | refine blk_drewN ?_ _ | refine blk_drew ?_ | refine blk_alloc ?_ _)); exact BK323.out)) : gb337 ≠ gb323)); have n10_ := Aside0.mk ((by rw [hg]; exact Nat.ne_of_lt (blk_lt (g := gb324) (o := .cells #[.int .i64 a1_0, .int .i64 a1_1, .slice A1_2 l1_2.length c1_2, .slice A1_3 l1_3.length c1_3] 25 (0, 0)) (by (with_reducible repeat (first | refine blk_drewN ?_ _ | refine blk_drew ?_ | refine blk_alloc ?_ _)); exact BK324.out)) : gb324 ≠ gb337)); have n11_ := Aside0.mk ((by rw [hg]; exact Nat.ne_of_gt (blk_lt (g := gb324) (o := .cells #[.int .i64 a1_0, .int .i64 a1_1, .slice A1_2 l1_2.length c1_2, .slice A1_3 l1_3.length c1_3] 25 (0, 0)) (by (with_reducible repeat (first | refine blk_drewN ?_ _ | refine blk_drew ?_ | refine blk_alloc ?_ _)); exact BK324.out)) : gb337 ≠ gb324)); clear HO332; clear HO335; clear BK323; clear BK324; clear HB; have HO332 := n0_; have HO335 := n1_; have BK323 := n2_; have BK324 := n3_; have HB := n4_; have BK337 := n5_; have GW337 := n6_; have GE337 := n7_; have NB323_337 := n8_; have NB337_323 := n9_; have NB324_337 := n10_; have NB337_324 := n11_; clear n0_ n1_ n2_ n3_ n4_ n5_ n6_ n7_ n8_ n9_ n10_ n11_; clear hb hbox hg; have hnb30 := NB337_323.out; have hnc30 := NB323_337.out; have hnb31 := NB337_324.out; have hnc31 := NB324_337.out; have hcz32_0 : w29.cell? ⟨gb337, 0, none⟩ = some (.int .i64 0) := (blk_cell BK337.out 0).trans rfl; have hcz32_1 : w29.cell? ⟨gb337, 1, none⟩ = some (.int .i64 0) := (blk_cell BK337.out 1).trans rfl; have hcz32_2 : w29.cell? ⟨gb337, 2, none⟩ = some (.slice none 0 0) := (blk_cell BK337.out 2).trans rfl; have hcz32_3 : w29.cell? ⟨gb337, 3, none⟩ = some (.slice none 0 0) := (blk_cell BK337.out 3).trans rfl; have hfz32_0 := blk_frozen BK337.out 0; have hfz32_1 := blk_frozen BK337.out 1; have hfz32_2 := blk_frozen BK337.out 2; have hfz32_3 := blk_frozen BK337.out 3; obtain ⟨Ao33, co33, eo33⟩ := Kd.R_slice HO332.out; subst eo33; obtain ⟨Ao34, co34, eo34⟩ := Kd.R_slice HO335.out; subst eo34))
          have n0_ : Aside0 (Kd.R k37 37 ((((w29.setCell ⟨gb337, 0, none⟩ (.int .i64 t328)).setCell ⟨gb337, 1, none⟩ (.int .i64 t329)).setCell ⟨gb337, 2, none⟩ (.slice Ao33 t330.length co33)).setCell ⟨gb337, 3, none⟩ (.slice Ao34 t333.length co34)) w.heap.size (fun _ => True) (.slice Ao33 t330.length co33) t330) := ⟨by (with_reducible repeat (first | apply Kd.R_alloc | apply Kd.R_drewN | apply Kd.R_drew)); exact Kd.R_mono (Kd.R_far (p := ⟨gb337, 3, none⟩) (Kd.R_far (p := ⟨gb337, 2, none⟩) (Kd.R_far (p := ⟨gb337, 1, none⟩) (Kd.R_far (p := ⟨gb337, 0, none⟩) (Kd.R_types HO332.out BK337.out (by decide)) (fun _ hk => hk.2) (.int .i64 t328)) (fun _ hk => hk.2) (.int .i64 t329)) (fun _ hk => hk.2) (.slice Ao33 t330.length co33)) (fun _ hk => hk.2) (.slice Ao34 t333.length co34)) (fun _ hk => trivial)⟩
          have n1_ : Aside0 (Kd.R (Kd.int .i64) 3 ((((w29.setCell ⟨gb337, 0, none⟩ (.int .i64 t328)).setCell ⟨gb337, 1, none⟩ (.int .i64 t329)).setCell ⟨gb337, 2, none⟩ (.slice Ao33 t330.length co33)).setCell ⟨gb337, 3, none⟩ (.slice Ao34 t333.length co34)) w.heap.size (fun _ => True) (.slice Ao34 t333.length co34) t333) := ⟨by (with_reducible repeat (first | apply Kd.R_alloc | apply Kd.R_drewN | apply Kd.R_drew)); exact Kd.R_mono (Kd.R_far (p := ⟨gb337, 3, none⟩) (Kd.R_far (p := ⟨gb337, 2, none⟩) (Kd.R_far (p := ⟨gb337, 1, none⟩) (Kd.R_far (p := ⟨gb337, 0, none⟩) (Kd.R_types HO335.out BK337.out (by decide)) (fun _ hk => hk.2) (.int .i64 t328)) (fun _ hk => hk.2) (.int .i64 t329)) (fun _ hk => hk.2) (.slice Ao33 t330.length co33)) (fun _ hk => hk.2) (.slice Ao34 t333.length co34)) (fun _ hk => trivial)⟩
          have n2_ : Aside0 (((((w29.setCell ⟨gb337, 0, none⟩ (.int .i64 t328)).setCell ⟨gb337, 1, none⟩ (.int .i64 t329)).setCell ⟨gb337, 2, none⟩ (.slice Ao33 t330.length co33)).setCell ⟨gb337, 3, none⟩ (.slice Ao34 t333.length co34)).heap[gb323]? = some (.cells #[.int .i64 a0_0, .int .i64 a0_1, .slice A0_2 l0_2.length c0_2, .slice A0_3 l0_3.length c0_3] 25 (0, 0))) := ⟨by (with_reducible repeat (first | refine blk_drewN ?_ _ | refine blk_drew ?_ | refine blk_alloc ?_ _)); refine blk_far ?_ NB323_337.out _; (with_reducible repeat (first | refine blk_drewN ?_ _ | refine blk_drew ?_ | refine blk_alloc ?_ _)); refine blk_far ?_ NB323_337.out _; (with_reducible repeat (first | refine blk_drewN ?_ _ | refine blk_drew ?_ | refine blk_alloc ?_ _)); refine blk_far ?_ NB323_337.out _; (with_reducible repeat (first | refine blk_drewN ?_ _ | refine blk_drew ?_ | refine blk_alloc ?_ _)); refine blk_far ?_ NB323_337.out _; (with_reducible repeat (first | refine blk_drewN ?_ _ | refine blk_drew ?_ | refine blk_alloc ?_ _)); exact BK323.out⟩
          have n3_ : Aside0 (((((w29.setCell ⟨gb337, 0, none⟩ (.int .i64 t328)).setCell ⟨gb337, 1, none⟩ (.int .i64 t329)).setCell ⟨gb337, 2, none⟩ (.slice Ao33 t330.length co33)).setCell ⟨gb337, 3, none⟩ (.slice Ao34 t333.length co34)).heap[gb324]? = some (.cells #[.int .i64 a1_0, .int .i64 a1_1, .slice A1_2 l1_2.length c1_2, .slice A1_3 l1_3.length c1_3] 25 (0, 0))) := ⟨by (with_reducible repeat (first | refine blk_drewN ?_ _ | refine blk_drew ?_ | refine blk_alloc ?_ _)); refine blk_far ?_ NB324_337.out _; (with_reducible repeat (first | refine blk_drewN ?_ _ | refine blk_drew ?_ | refine blk_alloc ?_ _)); refine blk_far ?_ NB324_337.out _; (with_reducible repeat (first | refine blk_drewN ?_ _ | refine blk_drew ?_ | refine blk_alloc ?_ _)); refine blk_far ?_ NB324_337.out _; (with_reducible repeat (first | refine blk_drewN ?_ _ | refine blk_drew ?_ | refine blk_alloc ?_ _)); refine blk_far ?_ NB324_337.out _; (with_reducible repeat (first | refine blk_drewN ?_ _ | refine blk_drew ?_ | refine blk_alloc ?_ _)); exact BK324.out⟩
          have n4_ : Aside0 (((((w29.setCell ⟨gb337, 0, none⟩ (.int .i64 t328)).setCell ⟨gb337, 1, none⟩ (.int .i64 t329)).setCell ⟨gb337, 2, none⟩ (.slice Ao33 t330.length co33)).setCell ⟨gb337, 3, none⟩ (.slice Ao34 t333.length co34)).heap[gb337]? = some (.cells #[.int .i64 t328, .int .i64 t329, .slice Ao33 t330.length co33, .slice Ao34 t333.length co34] 25 (0, 0))) := ⟨by (with_reducible repeat (first | refine blk_drewN ?_ _ | refine blk_drew ?_ | refine blk_alloc ?_ _)); refine blk_put (cs := #[.int .i64 t328, .int .i64 t329, .slice Ao33 t330.length co33, .slice none 0 0]) ?_ 3 _ rfl; (with_reducible repeat (first | refine blk_drewN ?_ _ | refine blk_drew ?_ | refine blk_alloc ?_ _)); refine blk_put (cs := #[.int .i64 t328, .int .i64 t329, .slice none 0 0, .slice none 0 0]) ?_ 2 _ rfl; (with_reducible repeat (first | refine blk_drewN ?_ _ | refine blk_drew ?_ | refine blk_alloc ?_ _)); refine blk_put (cs := #[.int .i64 t328, .int .i64 0, .slice none 0 0, .slice none 0 0]) ?_ 1 _ rfl; (with_reducible repeat (first | refine blk_drewN ?_ _ | refine blk_drew ?_ | refine blk_alloc ?_ _)); refine blk_put (cs := #[.int .i64 0, .int .i64 0, .slice none 0 0, .slice none 0 0]) ?_ 0 _ rfl; (with_reducible repeat (first | refine blk_drewN ?_ _ | refine blk_drew ?_ | refine blk_alloc ?_ _)); exact BK337.out⟩
          have n5_ : Aside0 (Below w.heap.size w ((((w29.setCell ⟨gb337, 0, none⟩ (.int .i64 t328)).setCell ⟨gb337, 1, none⟩ (.int .i64 t329)).setCell ⟨gb337, 2, none⟩ (.slice Ao33 t330.length co33)).setCell ⟨gb337, 3, none⟩ (.slice Ao34 t333.length co34))) := ⟨by repeat (first | (with_reducible first | exact HB.out | apply below_alloc | apply pw_below_drewN | apply below_drew1 | refine below_set ?_ GE323.out | refine below_set ?_ GE324.out | refine below_set ?_ GE337.out) | exact HB.out)⟩
          (try clear HO332)
          (try clear HO335)
          (try clear BK323)
          (try clear BK324)
          (try clear BK337)
          (try clear HB)
          generalize ((((w29.setCell ⟨gb337, 0, none⟩ (.int .i64 t328)).setCell ⟨gb337, 1, none⟩ (.int .i64 t329)).setCell ⟨gb337, 2, none⟩ (.slice Ao33 t330.length co33)).setCell ⟨gb337, 3, none⟩ (.slice Ao34 t333.length co34)) = w35 at n0_ n1_ n2_ n3_ n4_ n5_ ⊢
          have HO332 := n0_
          have HO335 := n1_
          have BK323 := n2_
          have BK324 := n3_
          have BK337 := n4_
          have HB := n5_
          clear n0_ n1_ n2_ n3_ n4_ n5_
          have n0_ := Aside0.mk (Kd.R_drew HO332.out)
          have n1_ := Aside0.mk (Kd.R_drew HO335.out)
          have n2_ := Aside0.mk (blk_drew BK323.out)
          have n3_ := Aside0.mk (blk_drew BK324.out)
          have n4_ := Aside0.mk (blk_drew BK337.out)
          have n5_ := Aside0.mk (below_drew1 HB.out)
          clear HO332
          clear HO335
          clear BK323
          clear BK324
          clear BK337
          clear HB
          have HO332 := n0_
          have HO335 := n1_
          have BK323 := n2_
          have BK324 := n3_
          have BK337 := n4_
          have HB := n5_
          clear n0_ n1_ n2_ n3_ n4_ n5_
          refine start_ (n := 6) (S := fun w' => w'.cell? ⟨gb323, 0, none⟩ = some (.int .i64 a0_0) ∧ w'.cell? ⟨gb323, 1, none⟩ = some (.int .i64 a0_1) ∧ w'.cell? ⟨gb323, 2, none⟩ = some (.slice A0_2 l0_2.length c0_2) ∧ w'.cell? ⟨gb323, 3, none⟩ = some (.slice A0_3 l0_3.length c0_3) ∧ w'.cell? ⟨gb324, 0, none⟩ = some (.int .i64 a1_0) ∧ w'.cell? ⟨gb324, 1, none⟩ = some (.int .i64 a1_1) ∧ w'.cell? ⟨gb324, 2, none⟩ = some (.slice A1_2 l1_2.length c1_2) ∧ w'.cell? ⟨gb324, 3, none⟩ = some (.slice A1_3 l1_3.length c1_3)) (ds := []) #[false, false, false, false, false, false] (by kernel_rfl) rfl rfl ⟨(blk_cell BK323.out 0).trans rfl, (blk_cell BK323.out 1).trans rfl, (blk_cell BK323.out 2).trans rfl, (blk_cell BK323.out 3).trans rfl, (blk_cell BK324.out 0).trans rfl, (blk_cell BK324.out 1).trans rfl, (blk_cell BK324.out 2).trans rfl, (blk_cell BK324.out 3).trans rfl⟩ (fun hHeld => ?_)
          generalize w35.drew = w36 at HO332 HO335 BK323 BK324 BK337 HB hHeld ⊢
          refine take_ (i := 0) (N := some 33) (v := ?_) (a' := ?_) #[true, false, false, false, false, false] rfl rfl (by kernel_rfl) (fun _ _ _ h => h) (Or.inl ⟨by rfl, ?_⟩) hHeld ?_ ?_
          rotate_left
          · rintro w' ⟨s0, s1, s2, s3, s4, s5, s6, s7⟩
            go_simp
            with_reducible rfl
          rotate_left
          · simp only [Act.put, List.setIfInBounds_toArray, List.set_cons_zero, List.set_cons_succ, i64_w, i32_w]
            rfl
          refine take_ (i := 2) (N := some 35) (v := ?_) (a' := ?_) #[true, false, true, false, false, false] rfl rfl (by kernel_rfl) (fun _ _ _ h => h) (Or.inl ⟨by rfl, ?_⟩) hHeld ?_ ?_
          rotate_left
          · rintro w' ⟨s0, s1, s2, s3, s4, s5, s6, s7⟩
            go_simp
            with_reducible rfl
          rotate_left
          · simp only [Act.put, List.setIfInBounds_toArray, List.set_cons_zero, List.set_cons_succ, i64_w, i32_w]
            rfl
          refine one_ (i := 1) (N := some 34) #[true, true, true, false, false, false] rfl rfl (by kernel_rfl) (by decide) (fun K hK => ?_)
          refine goes_ Tryd.func15 (by kernel_rfl) rfl #[.agg #[.int .i64 a0_0, .int .i64 a0_1, .slice A0_2 l0_2.length c0_2, .slice A0_3 l0_3.length c0_3]] (by rfl) rfl rfl (by (try simp only [List.map_toArray, List.map_cons, List.map_nil]); first | done | rfl | (simp only [List.length_drop, List.length_take]; rfl)) ?_
          with_reducible refine (swageref08_Right.calls kj4 a0_0 a0_1 _ _ l0_2 _ _ l0_3 t338 _ ?side1 ?side2 ?side3 ?side4 A22.out).mono ?_
          (case side1 => repeat (first | exact (Kd.C_below HR0_2.out HB.out) | (with_reducible refine Kd.C_alloc ?_ _) | (with_reducible refine Kd.C_drewN ?_ _) | (with_reducible refine Kd.C_drew ?_)))
          (case side2 => exact HC0_2.out)
          (case side3 => repeat (first | exact (Kd.C_below HR0_3.out HB.out) | (with_reducible refine Kd.C_alloc ?_ _) | (with_reducible refine Kd.C_drewN ?_ _) | (with_reducible refine Kd.C_drew ?_)))
          (case side4 => exact HC0_3.out)
          rintro e w37 ⟨rfl, hb⟩
          refine ⟨_, rfl, ?_⟩
          have n0_ := Aside0.mk (Kd.R_below (by (with_reducible repeat (first | apply Kd.R_alloc | apply Kd.R_drewN | apply Kd.R_drew)); exact HO332.out) hb)
          have n1_ := Aside0.mk (Kd.R_below (by (with_reducible repeat (first | apply Kd.R_alloc | apply Kd.R_drewN | apply Kd.R_drew)); exact HO335.out) hb)
          have n2_ := Aside0.mk (blk_below (g := gb323) (o := .cells #[.int .i64 a0_0, .int .i64 a0_1, .slice A0_2 l0_2.length c0_2, .slice A0_3 l0_3.length c0_3] 25 (0, 0)) (by (with_reducible repeat (first | refine blk_drewN ?_ _ | refine blk_drew ?_ | refine blk_alloc ?_ _)); exact BK323.out) hb)
          have n3_ := Aside0.mk (blk_below (g := gb324) (o := .cells #[.int .i64 a1_0, .int .i64 a1_1, .slice A1_2 l1_2.length c1_2, .slice A1_3 l1_3.length c1_3] 25 (0, 0)) (by (with_reducible repeat (first | refine blk_drewN ?_ _ | refine blk_drew ?_ | refine blk_alloc ?_ _)); exact BK324.out) hb)
          have n4_ := Aside0.mk (blk_below (g := gb337) (o := .cells #[.int .i64 t328, .int .i64 t329, .slice Ao33 t330.length co33, .slice Ao34 t333.length co34] 25 (0, 0)) (by (with_reducible repeat (first | refine blk_drewN ?_ _ | refine blk_drew ?_ | refine blk_alloc ?_ _)); exact BK337.out) hb)
          have n5_ := Aside0.mk (below_step (by repeat (first | (with_reducible first | exact HB.out | apply below_alloc | apply pw_below_drewN | apply below_drew1 | refine below_set ?_ GE323.out | refine below_set ?_ GE324.out | refine below_set ?_ GE337.out) | exact HB.out)) hb)
          clear HO332
          clear HO335
          clear BK323
          clear BK324
          clear BK337
          clear HB
          have HO332 := n0_
          have HO335 := n1_
          have BK323 := n2_
          have BK324 := n3_
          have BK337 := n4_
          have HB := n5_
          clear n0_ n1_ n2_ n3_ n4_ n5_
          (try clear hb)
          (try clear hb2)
          (try clear hk)
          (try clear hi)
          refine hK.out _ _ ⟨(blk_cell BK323.out 0).trans rfl, (blk_cell BK323.out 1).trans rfl, (blk_cell BK323.out 2).trans rfl, (blk_cell BK323.out 3).trans rfl, (blk_cell BK324.out 0).trans rfl, (blk_cell BK324.out 1).trans rfl, (blk_cell BK324.out 2).trans rfl, (blk_cell BK324.out 3).trans rfl⟩ (fun hHeld => ?_)
          clear hK K
          refine norm_ (a' := ?_) ?_ ?_
          rotate_left
          · show Act.put _ (some 34) _ = _
            simp only [Act.put, List.setIfInBounds_toArray, List.set_cons_zero, List.set_cons_succ, i64_w, i32_w]
            rfl
          refine one_ (i := 3) (N := some 36) #[true, true, true, true, false, false] rfl rfl (by kernel_rfl) (by decide) (fun K hK => ?_)
          refine goes_ Tryd.func15 (by kernel_rfl) rfl #[.agg #[.int .i64 a1_0, .int .i64 a1_1, .slice A1_2 l1_2.length c1_2, .slice A1_3 l1_3.length c1_3]] (by rfl) rfl rfl (by (try simp only [List.map_toArray, List.map_cons, List.map_nil]); first | done | rfl | (simp only [List.length_drop, List.length_take]; rfl)) ?_
          with_reducible refine (swageref08_Right.calls kj4 a1_0 a1_1 _ _ l1_2 _ _ l1_3 t339 _ ?side1 ?side2 ?side3 ?side4 A23.out).mono ?_
          (case side1 => repeat (first | exact (Kd.C_below HR1_2.out HB.out) | (with_reducible refine Kd.C_alloc ?_ _) | (with_reducible refine Kd.C_drewN ?_ _) | (with_reducible refine Kd.C_drew ?_)))
          (case side2 => exact HC1_2.out)
          (case side3 => repeat (first | exact (Kd.C_below HR1_3.out HB.out) | (with_reducible refine Kd.C_alloc ?_ _) | (with_reducible refine Kd.C_drewN ?_ _) | (with_reducible refine Kd.C_drew ?_)))
          (case side4 => exact HC1_3.out)
          rintro e w38 ⟨rfl, hb⟩
          refine ⟨_, rfl, ?_⟩
          have n0_ := Aside0.mk (Kd.R_below (by (with_reducible repeat (first | apply Kd.R_alloc | apply Kd.R_drewN | apply Kd.R_drew)); exact HO332.out) hb)
          have n1_ := Aside0.mk (Kd.R_below (by (with_reducible repeat (first | apply Kd.R_alloc | apply Kd.R_drewN | apply Kd.R_drew)); exact HO335.out) hb)
          have n2_ := Aside0.mk (blk_below (g := gb323) (o := .cells #[.int .i64 a0_0, .int .i64 a0_1, .slice A0_2 l0_2.length c0_2, .slice A0_3 l0_3.length c0_3] 25 (0, 0)) (by (with_reducible repeat (first | refine blk_drewN ?_ _ | refine blk_drew ?_ | refine blk_alloc ?_ _)); exact BK323.out) hb)
          have n3_ := Aside0.mk (blk_below (g := gb324) (o := .cells #[.int .i64 a1_0, .int .i64 a1_1, .slice A1_2 l1_2.length c1_2, .slice A1_3 l1_3.length c1_3] 25 (0, 0)) (by (with_reducible repeat (first | refine blk_drewN ?_ _ | refine blk_drew ?_ | refine blk_alloc ?_ _)); exact BK324.out) hb)
          have n4_ := Aside0.mk (blk_below (g := gb337) (o := .cells #[.int .i64 t328, .int .i64 t329, .slice Ao33 t330.length co33, .slice Ao34 t333.length co34] 25 (0, 0)) (by (with_reducible repeat (first | refine blk_drewN ?_ _ | refine blk_drew ?_ | refine blk_alloc ?_ _)); exact BK337.out) hb)
          have n5_ := Aside0.mk (below_step (by repeat (first | (with_reducible first | exact HB.out | apply below_alloc | apply pw_below_drewN | apply below_drew1 | refine below_set ?_ GE323.out | refine below_set ?_ GE324.out | refine below_set ?_ GE337.out) | exact HB.out)) hb)
          clear HO332
          clear HO335
          clear BK323
          clear BK324
          clear BK337
          clear HB
          have HO332 := n0_
          have HO335 := n1_
          have BK323 := n2_
          have BK324 := n3_
          have BK337 := n4_
          have HB := n5_
          clear n0_ n1_ n2_ n3_ n4_ n5_
          (try clear hb)
          (try clear hb2)
          (try clear hk)
          (try clear hi)
          refine hK.out _ _ ⟨(blk_cell BK323.out 0).trans rfl, (blk_cell BK323.out 1).trans rfl, (blk_cell BK323.out 2).trans rfl, (blk_cell BK323.out 3).trans rfl, (blk_cell BK324.out 0).trans rfl, (blk_cell BK324.out 1).trans rfl, (blk_cell BK324.out 2).trans rfl, (blk_cell BK324.out 3).trans rfl⟩ (fun hHeld => ?_)
          clear hK K
          refine norm_ (a' := ?_) ?_ ?_
          rotate_left
          · show Act.put _ (some 36) _ = _
            simp only [Act.put, List.setIfInBounds_toArray, List.set_cons_zero, List.set_cons_succ, i64_w, i32_w]
            rfl
          refine pure_ (i := 4) (N := some 7) (v := ?_) (a' := ?_) #[true, true, true, true, true, false] rfl rfl (by kernel_rfl) (fun _ _ _ h => h) (Or.inl ⟨by rfl, ?_⟩) ?_ ?_
          rotate_left
          · intro w'
            go_simp
            with_reducible rfl
          rotate_left
          · simp only [Act.put, List.setIfInBounds_toArray, List.set_cons_zero, List.set_cons_succ, i64_w, i32_w]
            rfl
          refine pure_ (i := 5) (N := some 8) (v := ?_) (a' := ?_) #[true, true, true, true, true, true] rfl rfl (by kernel_rfl) (fun _ _ _ h => h) (Or.inl ⟨by rfl, ?_⟩) ?_ ?_
          rotate_left
          · intro w'
            go_simp
            with_reducible rfl
          rotate_left
          · simp only [Act.put, List.setIfInBounds_toArray, List.set_cons_zero, List.set_cons_succ, i64_w, i32_w]
            rfl
          refine done_ (by kernel_rfl) ?_
          go_upto_region 7 with (fail)
          go_cut [42] (fun v42 wc => ∃ (kq : Nat) (x42_23 : Bool), v42 = .bool x42_23 ∧ Aside0 (swagelaw08_ProgJoins.j1 kq t336 x42_23 a0_0 a0_1 l0_2 l0_3 a1_0 a1_1 l1_2 l1_3 t328 t329 t330 t333 = some r) ∧ Aside0 (kq ≤ kj4) ∧ Aside0 (Kd.R k37 37 wc w.heap.size (fun _ => True) (.slice Ao33 t330.length co33) t330) ∧ Aside0 (Kd.R (Kd.int .i64) 3 wc w.heap.size (fun _ => True) (.slice Ao34 t333.length co34) t333) ∧ Aside0 (wc.heap[gb323]? = some (.cells #[.int .i64 a0_0, .int .i64 a0_1, (.slice A0_2 l0_2.length c0_2), (.slice A0_3 l0_3.length c0_3)] 25 (0, 0))) ∧ Aside0 (wc.heap[gb324]? = some (.cells #[.int .i64 a1_0, .int .i64 a1_1, (.slice A1_2 l1_2.length c1_2), (.slice A1_3 l1_3.length c1_3)] 25 (0, 0))) ∧ Aside0 (wc.heap[gb337]? = some (.cells #[.int .i64 t328, .int .i64 t329, (.slice Ao33 t330.length co33), (.slice Ao34 t333.length co34)] 25 (0, 0))) ∧ Aside0 (Below w.heap.size w wc))
          case first =>
            have H := HC24.out
            clear HC24
            by_cases c39 : t338 = true
            · subst c39
              have H1 : (swagelaw08_ProgJoins.j1 kj4 t336 (!t339) a0_0 a0_1 l0_2 l0_3 a1_0 a1_1 l1_2 l1_3 t328 t329 t330 t333) = some r := by rw [if_pos rfl] at H; exact H
              clear H
              have H := H1
              clear H1
              have H' := Aside0.mk H
              clear H
              go_wp2
              go_meet
              case rel => exact ⟨_, (!t339), (by first | rfl | (simp; done) | (simp [*]; done)), H', ⟨by have := HJ4.out; first | omega | exact Nat.le_refl _⟩, ⟨by (with_reducible repeat (first | apply Kd.R_alloc | apply Kd.R_drewN | apply Kd.R_drew)); exact HO332.out⟩, ⟨by (with_reducible repeat (first | apply Kd.R_alloc | apply Kd.R_drewN | apply Kd.R_drew)); exact HO335.out⟩, ⟨by (with_reducible repeat (first | refine blk_drewN ?_ _ | refine blk_drew ?_ | refine blk_alloc ?_ _)); exact BK323.out⟩, ⟨by (with_reducible repeat (first | refine blk_drewN ?_ _ | refine blk_drew ?_ | refine blk_alloc ?_ _)); exact BK324.out⟩, ⟨by (with_reducible repeat (first | refine blk_drewN ?_ _ | refine blk_drew ?_ | refine blk_alloc ?_ _)); exact BK337.out⟩, ⟨by repeat (first | (with_reducible first | exact HB.out | apply below_alloc | apply pw_below_drewN | apply below_drew1 | refine below_set ?_ GE323.out | refine below_set ?_ GE324.out | refine below_set ?_ GE337.out) | exact HB.out)⟩⟩
            · replace c39 := Bool.eq_false_iff.mpr c39
              subst c39
              have H1 : (swagelaw08_ProgJoins.j1 kj4 t336 true a0_0 a0_1 l0_2 l0_3 a1_0 a1_1 l1_2 l1_3 t328 t329 t330 t333) = some r := by rw [if_neg (show ¬ (false = true) by decide)] at H; exact H
              clear H
              have H := H1
              clear H1
              have H' := Aside0.mk H
              clear H
              go_wp2
              go_meet
              case rel => exact ⟨_, (true), (by first | rfl | (simp; done) | (simp [*]; done)), H', ⟨by have := HJ4.out; first | omega | exact Nat.le_refl _⟩, ⟨by (with_reducible repeat (first | apply Kd.R_alloc | apply Kd.R_drewN | apply Kd.R_drew)); exact HO332.out⟩, ⟨by (with_reducible repeat (first | apply Kd.R_alloc | apply Kd.R_drewN | apply Kd.R_drew)); exact HO335.out⟩, ⟨by (with_reducible repeat (first | refine blk_drewN ?_ _ | refine blk_drew ?_ | refine blk_alloc ?_ _)); exact BK323.out⟩, ⟨by (with_reducible repeat (first | refine blk_drewN ?_ _ | refine blk_drew ?_ | refine blk_alloc ?_ _)); exact BK324.out⟩, ⟨by (with_reducible repeat (first | refine blk_drewN ?_ _ | refine blk_drew ?_ | refine blk_alloc ?_ _)); exact BK337.out⟩, ⟨by repeat (first | (with_reducible first | exact HB.out | apply below_alloc | apply pw_below_drewN | apply below_drew1 | refine below_set ?_ GE323.out | refine below_set ?_ GE324.out | refine below_set ?_ GE337.out) | exact HB.out)⟩⟩
          case rest =>
            clear HC24
            try clear c4
            try clear c20
            obtain ⟨kq, x42_23, rfl, HA, HJ23, HO_338002, HO_338003, BK323, BK324, BK337, HB⟩ := hcut
            cases kq with
            | zero => exact absurd HA.out (by simp [swagelaw08_ProgJoins.j1])
            | succ kj23 =>
              have H := HA.out
              clear HA
              simp only [swagelaw08_ProgJoins.j1] at H
              by_cases c40 : x42_23 = true
              · subst c40
                have H1 : ((swagelaw08_empty.f t328 t329 t330 t333).bind fun t340 => (if t340 = true then (if t336 = 80 then ((swagelaw08_live.f kj23).bind fun t341 => (some t341)) else (some false)) else (some false))) = some r := by rw [if_pos rfl] at H; exact H
                clear H
                have H := H1
                clear H1
                replace H := Option.bind_eq_some_iff.mp H
                obtain ⟨t340, A410, H⟩ := H
                replace H : (if t340 = true then (if t336 = 80 then ((swagelaw08_live.f kj23).bind fun t341 => (some t341)) else (some false)) else (some false)) = some r := H
                have A41 := Aside0.mk A410
                clear A410
                by_cases c42 : t340 = true
                · subst c42
                  have H1 : (if t336 = 80 then ((swagelaw08_live.f kj23).bind fun t341 => (some t341)) else (some false)) = some r := by rw [if_pos rfl] at H; exact H
                  clear H
                  have H := H1
                  clear H1
                  by_cases c43 : t336 = 80
                  · rw [if_pos c43] at H
                    have c43b0 : (t336 == 80) = true := beq_iff_eq.mpr c43
                    have c43b1 : (t336 != 80) = false := bne_eq_false_iff_eq.mpr c43
                    clear c43
                    replace H := Option.bind_eq_some_iff.mp H
                    obtain ⟨t341, A440, H⟩ := H
                    replace H : (some t341) = some r := H
                    have A44 := Aside0.mk A440
                    clear A440
                    obtain rfl := Option.some.inj H
                    have hnb45 := NB337_323.out
                    have hnc45 := NB323_337.out
                    have hnb46 := NB337_324.out
                    have hnc46 := NB324_337.out
                    have hcz47_0 : wc.cell? ⟨gb337, 0, none⟩ = some (.int .i64 t328) := (blk_cell BK337.out 0).trans rfl
                    have hcz47_1 : wc.cell? ⟨gb337, 1, none⟩ = some (.int .i64 t329) := (blk_cell BK337.out 1).trans rfl
                    have hcz47_2 : wc.cell? ⟨gb337, 2, none⟩ = some (.slice Ao33 t330.length co33) := (blk_cell BK337.out 2).trans rfl
                    have hcz47_3 : wc.cell? ⟨gb337, 3, none⟩ = some (.slice Ao34 t333.length co34) := (blk_cell BK337.out 3).trans rfl
                    have hfz47_0 := blk_frozen BK337.out 0
                    have hfz47_1 := blk_frozen BK337.out 1
                    have hfz47_2 := blk_frozen BK337.out 2
                    have hfz47_3 := blk_frozen BK337.out 3
                    go_wp2_with (first | ((with_reducible refine gate_callee (f := 23) rfl ?_); refine goesL_ (some 44) rfl rfl Tryd.func23 (by kernel_rfl) rfl #[.agg #[.int .i64 t328, .int .i64 t329, .slice Ao33 t330.length co33, .slice Ao34 t333.length co34]] rfl (by (try simp only [List.map_toArray, List.map_cons, List.map_nil]); first | done | rfl | (simp only [List.length_drop, List.length_take]; rfl)) ?_; (with_reducible refine (swagelaw08_empty.calls t328 t329 _ _ t330 _ _ t333 true _ ?side1 ?side2 ?side3 ?side4 A41.out).mono ?_); (case side1 => repeat (first | exact (Kd.R_reads' HO_338002.out).2.2 | (with_reducible refine Kd.C_alloc ?_ _) | (with_reducible refine Kd.C_drewN ?_ _) | (with_reducible refine Kd.C_drew ?_))); (case side2 => exact (Kd.R_reads' HO_338002.out).2.1); (case side3 => repeat (first | exact (Kd.R_reads' HO_338003.out).2.2 | (with_reducible refine Kd.C_alloc ?_ _) | (with_reducible refine Kd.C_drewN ?_ _) | (with_reducible refine Kd.C_drew ?_))); (case side4 => exact (Kd.R_reads' HO_338003.out).2.1); rintro e w48 ⟨rfl, hb⟩; refine ⟨_, rfl, ?_⟩; have n0_ := Aside0.mk (Kd.R_below (by (with_reducible repeat (first | apply Kd.R_alloc | apply Kd.R_drewN | apply Kd.R_drew)); exact HO_338002.out) hb); have n1_ := Aside0.mk (Kd.R_below (by (with_reducible repeat (first | apply Kd.R_alloc | apply Kd.R_drewN | apply Kd.R_drew)); exact HO_338003.out) hb); have n2_ := Aside0.mk (blk_below (g := gb323) (o := .cells #[.int .i64 a0_0, .int .i64 a0_1, .slice A0_2 l0_2.length c0_2, .slice A0_3 l0_3.length c0_3] 25 (0, 0)) (by (with_reducible repeat (first | refine blk_drewN ?_ _ | refine blk_drew ?_ | refine blk_alloc ?_ _)); exact BK323.out) hb); have n3_ := Aside0.mk (blk_below (g := gb324) (o := .cells #[.int .i64 a1_0, .int .i64 a1_1, .slice A1_2 l1_2.length c1_2, .slice A1_3 l1_3.length c1_3] 25 (0, 0)) (by (with_reducible repeat (first | refine blk_drewN ?_ _ | refine blk_drew ?_ | refine blk_alloc ?_ _)); exact BK324.out) hb); have n4_ := Aside0.mk (blk_below (g := gb337) (o := .cells #[.int .i64 t328, .int .i64 t329, .slice Ao33 t330.length co33, .slice Ao34 t333.length co34] 25 (0, 0)) (by (with_reducible repeat (first | refine blk_drewN ?_ _ | refine blk_drew ?_ | refine blk_alloc ?_ _)); exact BK337.out) hb); have n5_ := Aside0.mk (below_step (by repeat (first | (with_reducible first | exact HB.out | apply below_alloc | apply pw_below_drewN | apply below_drew1 | refine below_set ?_ GE323.out | refine below_set ?_ GE324.out | refine below_set ?_ GE337.out) | exact HB.out)) hb); clear HO_338002; clear HO_338003; clear BK323; clear BK324; clear BK337; clear HB; have HO_338002 := n0_; have HO_338003 := n1_; have BK323 := n2_; have BK324 := n3_; have BK337 := n4_; have HB := n5_; clear n0_ n1_ n2_ n3_ n4_ n5_; (try clear hb); (try clear hb2); (try clear hk); (try clear hi)) | (go_at_call 10; (with_reducible refine (swagelaw08_live.calls kj23  t341 _ A44.out).mono ?_); rintro e w49 ⟨rfl, hb⟩; have n0_ := Aside0.mk (Kd.R_below (by (with_reducible repeat (first | apply Kd.R_alloc | apply Kd.R_drewN | apply Kd.R_drew)); exact HO_338002.out) hb); have n1_ := Aside0.mk (Kd.R_below (by (with_reducible repeat (first | apply Kd.R_alloc | apply Kd.R_drewN | apply Kd.R_drew)); exact HO_338003.out) hb); have n2_ := Aside0.mk (blk_below (g := gb323) (o := .cells #[.int .i64 a0_0, .int .i64 a0_1, .slice A0_2 l0_2.length c0_2, .slice A0_3 l0_3.length c0_3] 25 (0, 0)) (by (with_reducible repeat (first | refine blk_drewN ?_ _ | refine blk_drew ?_ | refine blk_alloc ?_ _)); exact BK323.out) hb); have n3_ := Aside0.mk (blk_below (g := gb324) (o := .cells #[.int .i64 a1_0, .int .i64 a1_1, .slice A1_2 l1_2.length c1_2, .slice A1_3 l1_3.length c1_3] 25 (0, 0)) (by (with_reducible repeat (first | refine blk_drewN ?_ _ | refine blk_drew ?_ | refine blk_alloc ?_ _)); exact BK324.out) hb); have n4_ := Aside0.mk (blk_below (g := gb337) (o := .cells #[.int .i64 t328, .int .i64 t329, .slice Ao33 t330.length co33, .slice Ao34 t333.length co34] 25 (0, 0)) (by (with_reducible repeat (first | refine blk_drewN ?_ _ | refine blk_drew ?_ | refine blk_alloc ?_ _)); exact BK337.out) hb); have n5_ := Aside0.mk (below_step (by repeat (first | (with_reducible first | exact HB.out | apply below_alloc | apply pw_below_drewN | apply below_drew1 | refine below_set ?_ GE323.out | refine below_set ?_ GE324.out | refine below_set ?_ GE337.out) | exact HB.out)) hb); clear HO_338002; clear HO_338003; clear BK323; clear BK324; clear BK337; clear HB; have HO_338002 := n0_; have HO_338003 := n1_; have BK323 := n2_; have BK324 := n3_; have BK337 := n4_; have HB := n5_; clear n0_ n1_ n2_ n3_ n4_ n5_; (try clear hb); (try clear hb2); (try clear hk); (try clear hi)))
                    go_ret
                    exact ⟨by first | rfl | (simp [errW_none, errW_some] <;> rfl) | (simp [*, errW_none, errW_some] <;> rfl), by repeat (first | (with_reducible first | exact HB.out | apply below_alloc | apply pw_below_drewN | apply below_drew1 | refine below_set ?_ GE323.out | refine below_set ?_ GE324.out | refine below_set ?_ GE337.out) | exact HB.out)⟩
                  · rw [if_neg c43] at H
                    have c43b0 : (t336 == 80) = false := beq_eq_false_iff_ne.mpr c43
                    have c43b1 : (t336 != 80) = true := bne_iff_ne.mpr c43
                    obtain rfl := Option.some.inj H
                    exact absurd hT.out (by simp)
                · replace c42 := Bool.eq_false_iff.mpr c42
                  subst c42
                  have H1 : (some false) = some r := by rw [if_neg (show ¬ (false = true) by decide)] at H; exact H
                  clear H
                  have H := H1
                  clear H1
                  obtain rfl := Option.some.inj H
                  exact absurd hT.out (by simp)
              · replace c40 := Bool.eq_false_iff.mpr c40
                subst c40
                have H1 : ((swageref08_Join.f kj23 a0_0 a0_1 l0_2 l0_3 a1_0 a1_1 l1_2 l1_3).bind fun bt342 => (if t336 = bt342.2.2.2.2 then ((swageref08_Same.f kj23 t328 t329 t330 t333 bt342.1 bt342.2.1 bt342.2.2.1 bt342.2.2.2.1).bind fun t352 => (if t352 = true then ((swagelaw08_live.f kj23).bind fun t353 => (swagelaw08_ProgJoins.j2 kj23 t336 (!t353) a0_0 a0_1 l0_2 l0_3 a1_0 a1_1 l1_2 l1_3 t328 t329 t330 t333)) else (swagelaw08_ProgJoins.j2 kj23 t336 true a0_0 a0_1 l0_2 l0_3 a1_0 a1_1 l1_2 l1_3 t328 t329 t330 t333))) else (swagelaw08_ProgJoins.j2 kj23 t336 true a0_0 a0_1 l0_2 l0_3 a1_0 a1_1 l1_2 l1_3 t328 t329 t330 t333))) = some r := by rw [if_neg (show ¬ (false = true) by decide)] at H; exact H
                clear H
                have H := H1
                clear H1
                replace H := Option.bind_eq_some_iff.mp H
                obtain ⟨⟨t342, t343, t344, t347, t350⟩, A500, H⟩ := H
                replace H : (if t336 = t350 then ((swageref08_Same.f kj23 t328 t329 t330 t333 t342 t343 t344 t347).bind fun t352 => (if t352 = true then ((swagelaw08_live.f kj23).bind fun t353 => (swagelaw08_ProgJoins.j2 kj23 t336 (!t353) a0_0 a0_1 l0_2 l0_3 a1_0 a1_1 l1_2 l1_3 t328 t329 t330 t333)) else (swagelaw08_ProgJoins.j2 kj23 t336 true a0_0 a0_1 l0_2 l0_3 a1_0 a1_1 l1_2 l1_3 t328 t329 t330 t333))) else (swagelaw08_ProgJoins.j2 kj23 t336 true a0_0 a0_1 l0_2 l0_3 a1_0 a1_1 l1_2 l1_3 t328 t329 t330 t333)) = some r := H
                have A50 := Aside0.mk A500
                clear A500
                have HC51 := Aside0.mk H
                clear H
                have hnb52 := NB323_324.out
                have hnc52 := NB324_323.out
                have hnb53 := NB323_337.out
                have hnc53 := NB337_323.out
                have hcz54_0 : wc.cell? ⟨gb323, 0, none⟩ = some (.int .i64 a0_0) := (blk_cell BK323.out 0).trans rfl
                have hcz54_1 : wc.cell? ⟨gb323, 1, none⟩ = some (.int .i64 a0_1) := (blk_cell BK323.out 1).trans rfl
                have hcz54_2 : wc.cell? ⟨gb323, 2, none⟩ = some (.slice A0_2 l0_2.length c0_2) := (blk_cell BK323.out 2).trans rfl
                have hcz54_3 : wc.cell? ⟨gb323, 3, none⟩ = some (.slice A0_3 l0_3.length c0_3) := (blk_cell BK323.out 3).trans rfl
                have hfz54_0 := blk_frozen BK323.out 0
                have hfz54_1 := blk_frozen BK323.out 1
                have hfz54_2 := blk_frozen BK323.out 2
                have hfz54_3 := blk_frozen BK323.out 3
                have hnb55 := NB324_337.out
                have hnc55 := NB337_324.out
                have hcz56_0 : wc.cell? ⟨gb324, 0, none⟩ = some (.int .i64 a1_0) := (blk_cell BK324.out 0).trans rfl
                have hcz56_1 : wc.cell? ⟨gb324, 1, none⟩ = some (.int .i64 a1_1) := (blk_cell BK324.out 1).trans rfl
                have hcz56_2 : wc.cell? ⟨gb324, 2, none⟩ = some (.slice A1_2 l1_2.length c1_2) := (blk_cell BK324.out 2).trans rfl
                have hcz56_3 : wc.cell? ⟨gb324, 3, none⟩ = some (.slice A1_3 l1_3.length c1_3) := (blk_cell BK324.out 3).trans rfl
                have hfz56_0 := blk_frozen BK324.out 0
                have hfz56_1 := blk_frozen BK324.out 1
                have hfz56_2 := blk_frozen BK324.out 2
                have hfz56_3 := blk_frozen BK324.out 3
                go_upto_region 10 with (first | ((with_reducible refine gate_callee (f := 24) rfl ?_); refine goesL_ (some 55) rfl rfl Tryd.func24 (by kernel_rfl) rfl #[.agg #[.int .i64 a0_0, .int .i64 a0_1, .slice A0_2 l0_2.length c0_2, .slice A0_3 l0_3.length c0_3], .agg #[.int .i64 a1_0, .int .i64 a1_1, .slice A1_2 l1_2.length c1_2, .slice A1_3 l1_3.length c1_3]] rfl (by (try simp only [List.map_toArray, List.map_cons, List.map_nil]); first | done | rfl | (simp only [List.length_drop, List.length_take]; rfl)) ?_; (with_reducible refine (swageref08_Join.calls kj23 a0_0 a0_1 _ _ l0_2 _ _ l0_3 a1_0 a1_1 _ _ l1_2 _ _ l1_3 t342 t343 t344 t347 t350 _ ?side1 ?side2 ?side3 ?side4 ?side5 ?side6 ?side7 ?side8 A50.out).mono ?_); (case side1 => repeat (first | exact (Kd.C_below HR0_2.out HB.out) | (with_reducible refine Kd.C_alloc ?_ _) | (with_reducible refine Kd.C_drewN ?_ _) | (with_reducible refine Kd.C_drew ?_))); (case side2 => exact HC0_2.out); (case side3 => repeat (first | exact (Kd.C_below HR0_3.out HB.out) | (with_reducible refine Kd.C_alloc ?_ _) | (with_reducible refine Kd.C_drewN ?_ _) | (with_reducible refine Kd.C_drew ?_))); (case side4 => exact HC0_3.out); (case side5 => repeat (first | exact (Kd.C_below HR1_2.out HB.out) | (with_reducible refine Kd.C_alloc ?_ _) | (with_reducible refine Kd.C_drewN ?_ _) | (with_reducible refine Kd.C_drew ?_))); (case side6 => exact HC1_2.out); (case side7 => repeat (first | exact (Kd.C_below HR1_3.out HB.out) | (with_reducible refine Kd.C_alloc ?_ _) | (with_reducible refine Kd.C_drewN ?_ _) | (with_reducible refine Kd.C_drew ?_))); (case side8 => exact HC1_3.out); rintro e w57 ⟨v345, v348, rfl, ho0, ho1, hb⟩; refine ⟨_, rfl, ?_⟩; have n0_ := Aside0.mk (Kd.R_elder' (by (with_reducible repeat (first | apply Kd.R_alloc | apply Kd.R_drewN | apply Kd.R_drew)); exact HO_338002.out) (Kd.R_base ho0) hb); have n1_ := Aside0.mk (Kd.R_elder' (by (with_reducible repeat (first | apply Kd.R_alloc | apply Kd.R_drewN | apply Kd.R_drew)); exact HO_338003.out) (Kd.R_base ho1) hb); have n2_ := Aside0.mk (Kd.R_lower (Kd.R_new' ho0 (Kd.R_lt (by (with_reducible repeat (first | apply Kd.R_alloc | apply Kd.R_drewN | apply Kd.R_drew)); exact HO_338002.out))) (below_size (by repeat (first | (with_reducible first | exact HB.out | apply below_alloc | apply pw_below_drewN | apply below_drew1 | refine below_set ?_ GE323.out | refine below_set ?_ GE324.out | refine below_set ?_ GE337.out) | exact HB.out)))); have n3_ := Aside0.mk (Kd.R_lower (Kd.R_new' ho1 (Kd.R_lt (by (with_reducible repeat (first | apply Kd.R_alloc | apply Kd.R_drewN | apply Kd.R_drew)); exact HO_338003.out))) (below_size (by repeat (first | (with_reducible first | exact HB.out | apply below_alloc | apply pw_below_drewN | apply below_drew1 | refine below_set ?_ GE323.out | refine below_set ?_ GE324.out | refine below_set ?_ GE337.out) | exact HB.out)))); have n4_ := Aside0.mk (blk_below (g := gb323) (o := .cells #[.int .i64 a0_0, .int .i64 a0_1, .slice A0_2 l0_2.length c0_2, .slice A0_3 l0_3.length c0_3] 25 (0, 0)) (by (with_reducible repeat (first | refine blk_drewN ?_ _ | refine blk_drew ?_ | refine blk_alloc ?_ _)); exact BK323.out) hb); have n5_ := Aside0.mk (blk_below (g := gb324) (o := .cells #[.int .i64 a1_0, .int .i64 a1_1, .slice A1_2 l1_2.length c1_2, .slice A1_3 l1_3.length c1_3] 25 (0, 0)) (by (with_reducible repeat (first | refine blk_drewN ?_ _ | refine blk_drew ?_ | refine blk_alloc ?_ _)); exact BK324.out) hb); have n6_ := Aside0.mk (blk_below (g := gb337) (o := .cells #[.int .i64 t328, .int .i64 t329, .slice Ao33 t330.length co33, .slice Ao34 t333.length co34] 25 (0, 0)) (by (with_reducible repeat (first | refine blk_drewN ?_ _ | refine blk_drew ?_ | refine blk_alloc ?_ _)); exact BK337.out) hb); have n7_ := Aside0.mk (below_step (by repeat (first | (with_reducible first | exact HB.out | apply below_alloc | apply pw_below_drewN | apply below_drew1 | refine below_set ?_ GE323.out | refine below_set ?_ GE324.out | refine below_set ?_ GE337.out) | exact HB.out)) hb); clear HO_338002; clear HO_338003; clear BK323; clear BK324; clear BK337; clear HB; have HO_338002 := n0_; have HO_338003 := n1_; have HO346 := n2_; have HO349 := n3_; have BK323 := n4_; have BK324 := n5_; have BK337 := n6_; have HB := n7_; clear n0_ n1_ n2_ n3_ n4_ n5_ n6_ n7_; (try clear hb); (try clear hb2); (try clear hk); (try clear hi); (try clear ho0); (try clear ho1)) | ((with_reducible refine gate_dst (N := 9) rfl ?_); refine box_event ?hg (N := 9) ?hd (cs := #[.int .i64 0, .int .i64 0, .slice none 0 0, .slice none 0 0]) (t := 25) ?hr ?_; (case hd => rfl); (case hg => rfl); (case hr => first | (go_simp; done) | (go_simp; rfl)); intro gb351 hg w58 hbox hb; have n0_ := Aside0.mk (Kd.R_below (by (with_reducible repeat (first | apply Kd.R_alloc | apply Kd.R_drewN | apply Kd.R_drew)); exact HO_338002.out) hb); have n1_ := Aside0.mk (Kd.R_below (by (with_reducible repeat (first | apply Kd.R_alloc | apply Kd.R_drewN | apply Kd.R_drew)); exact HO_338003.out) hb); have n2_ := Aside0.mk (Kd.R_below (by (with_reducible repeat (first | apply Kd.R_alloc | apply Kd.R_drewN | apply Kd.R_drew)); exact HO346.out) hb); have n3_ := Aside0.mk (Kd.R_below (by (with_reducible repeat (first | apply Kd.R_alloc | apply Kd.R_drewN | apply Kd.R_drew)); exact HO349.out) hb); have n4_ := Aside0.mk (blk_below (g := gb323) (o := .cells #[.int .i64 a0_0, .int .i64 a0_1, .slice A0_2 l0_2.length c0_2, .slice A0_3 l0_3.length c0_3] 25 (0, 0)) (by (with_reducible repeat (first | refine blk_drewN ?_ _ | refine blk_drew ?_ | refine blk_alloc ?_ _)); exact BK323.out) hb); have n5_ := Aside0.mk (blk_below (g := gb324) (o := .cells #[.int .i64 a1_0, .int .i64 a1_1, .slice A1_2 l1_2.length c1_2, .slice A1_3 l1_3.length c1_3] 25 (0, 0)) (by (with_reducible repeat (first | refine blk_drewN ?_ _ | refine blk_drew ?_ | refine blk_alloc ?_ _)); exact BK324.out) hb); have n6_ := Aside0.mk (blk_below (g := gb337) (o := .cells #[.int .i64 t328, .int .i64 t329, .slice Ao33 t330.length co33, .slice Ao34 t333.length co34] 25 (0, 0)) (by (with_reducible repeat (first | refine blk_drewN ?_ _ | refine blk_drew ?_ | refine blk_alloc ?_ _)); exact BK337.out) hb); have n7_ := Aside0.mk (below_step (by repeat (first | (with_reducible first | exact HB.out | apply below_alloc | apply pw_below_drewN | apply below_drew1 | refine below_set ?_ GE323.out | refine below_set ?_ GE324.out | refine below_set ?_ GE337.out) | exact HB.out)) hb); have n8_ := Aside0.mk (hbox); have n9_ := Aside0.mk ((by rw [hg]; exact (below_size (by repeat (first | (with_reducible first | exact HB.out | apply below_alloc | apply pw_below_drewN | apply below_drew1 | refine below_set ?_ GE323.out | refine below_set ?_ GE324.out | refine below_set ?_ GE337.out) | exact HB.out))) : w.heap.size ≤ gb351)); have n10_ := Aside0.mk ((by rw [hg]; exact (below_size (by repeat (first | (with_reducible first | exact HB.out | apply below_alloc | apply pw_below_drewN | apply below_drew1 | refine below_set ?_ GE323.out | refine below_set ?_ GE324.out | refine below_set ?_ GE337.out) | exact HB.out))) : w.heap.size ≤ gb351)); have n11_ := Aside0.mk ((by rw [hg]; exact Nat.ne_of_lt (blk_lt (g := gb323) (o := .cells #[.int .i64 a0_0, .int .i64 a0_1, .slice A0_2 l0_2.length c0_2, .slice A0_3 l0_3.length c0_3] 25 (0, 0)) (by (with_reducible repeat (first | refine blk_drewN ?_ _ | refine blk_drew ?_ | refine blk_alloc ?_ _)); exact BK323.out)) : gb323 ≠ gb351)); have n12_ := Aside0.mk ((by rw [hg]; exact Nat.ne_of_gt (blk_lt (g := gb323) (o := .cells #[.int .i64 a0_0, .int .i64 a0_1, .slice A0_2 l0_2.length c0_2, .slice A0_3 l0_3.length c0_3] 25 (0, 0)) (by (with_reducible repeat (first | refine blk_drewN ?_ _ | refine blk_drew ?_ | refine blk_alloc ?_ _)); exact BK323.out)) : gb351 ≠ gb323)); have n13_ := Aside0.mk ((by rw [hg]; exact Nat.ne_of_lt (blk_lt (g := gb324) (o := .cells #[.int .i64 a1_0, .int .i64 a1_1, .slice A1_2 l1_2.length c1_2, .slice A1_3 l1_3.length c1_3] 25 (0, 0)) (by (with_reducible repeat (first | refine blk_drewN ?_ _ | refine blk_drew ?_ | refine blk_alloc ?_ _)); exact BK324.out)) : gb324 ≠ gb351)); have n14_ := Aside0.mk ((by rw [hg]; exact Nat.ne_of_gt (blk_lt (g := gb324) (o := .cells #[.int .i64 a1_0, .int .i64 a1_1, .slice A1_2 l1_2.length c1_2, .slice A1_3 l1_3.length c1_3] 25 (0, 0)) (by (with_reducible repeat (first | refine blk_drewN ?_ _ | refine blk_drew ?_ | refine blk_alloc ?_ _)); exact BK324.out)) : gb351 ≠ gb324)); have n15_ := Aside0.mk ((by rw [hg]; exact Nat.ne_of_lt (blk_lt (g := gb337) (o := .cells #[.int .i64 t328, .int .i64 t329, .slice Ao33 t330.length co33, .slice Ao34 t333.length co34] 25 (0, 0)) (by (with_reducible repeat (first | refine blk_drewN ?_ _ | refine blk_drew ?_ | refine blk_alloc ?_ _)); exact BK337.out)) : gb337 ≠ gb351)); have n16_ := Aside0.mk ((by rw [hg]; exact Nat.ne_of_gt (blk_lt (g := gb337) (o := .cells #[.int .i64 t328, .int .i64 t329, .slice Ao33 t330.length co33, .slice Ao34 t333.length co34] 25 (0, 0)) (by (with_reducible repeat (first | refine blk_drewN ?_ _ | refine blk_drew ?_ | refine blk_alloc ?_ _)); exact BK337.out)) : gb351 ≠ gb337)); clear HO_338002; clear HO_338003; clear HO346; clear HO349; clear BK323; clear BK324; clear BK337; clear HB; have HO_338002 := n0_; have HO_338003 := n1_; have HO346 := n2_; have HO349 := n3_; have BK323 := n4_; have BK324 := n5_; have BK337 := n6_; have HB := n7_; have BK351 := n8_; have GW351 := n9_; have GE351 := n10_; have NB323_351 := n11_; have NB351_323 := n12_; have NB324_351 := n13_; have NB351_324 := n14_; have NB337_351 := n15_; have NB351_337 := n16_; clear n0_ n1_ n2_ n3_ n4_ n5_ n6_ n7_ n8_ n9_ n10_ n11_ n12_ n13_ n14_ n15_ n16_; clear hb hbox hg; have hnb59 := NB351_323.out; have hnc59 := NB323_351.out; have hnb60 := NB351_324.out; have hnc60 := NB324_351.out; have hnb61 := NB351_337.out; have hnc61 := NB337_351.out; have hcz62_0 : w58.cell? ⟨gb351, 0, none⟩ = some (.int .i64 0) := (blk_cell BK351.out 0).trans rfl; have hcz62_1 : w58.cell? ⟨gb351, 1, none⟩ = some (.int .i64 0) := (blk_cell BK351.out 1).trans rfl; have hcz62_2 : w58.cell? ⟨gb351, 2, none⟩ = some (.slice none 0 0) := (blk_cell BK351.out 2).trans rfl; have hcz62_3 : w58.cell? ⟨gb351, 3, none⟩ = some (.slice none 0 0) := (blk_cell BK351.out 3).trans rfl; have hfz62_0 := blk_frozen BK351.out 0; have hfz62_1 := blk_frozen BK351.out 1; have hfz62_2 := blk_frozen BK351.out 2; have hfz62_3 := blk_frozen BK351.out 3; obtain ⟨Ao63, co63, eo63⟩ := Kd.R_slice HO346.out; subst eo63; obtain ⟨Ao64, co64, eo64⟩ := Kd.R_slice HO349.out; subst eo64))
                (try simp only [Act.put, List.setIfInBounds_toArray, List.set_cons_zero, List.set_cons_succ])
                go_cut [70] (fun v70 wc => ∃ (kq : Nat) (x70_50 : Bool), v70 = .bool x70_50 ∧ Aside0 (swagelaw08_ProgJoins.j2 kq t336 x70_50 a0_0 a0_1 l0_2 l0_3 a1_0 a1_1 l1_2 l1_3 t328 t329 t330 t333 = some r) ∧ Aside0 (kq ≤ kj23) ∧ Aside0 (Kd.R k37 37 wc w.heap.size (fun k_ => some k_ ≠ ((.slice Ao63 t344.length co63) : Value).ownBlock) (.slice Ao33 t330.length co33) t330) ∧ Aside0 (Kd.R (Kd.int .i64) 3 wc w.heap.size (fun k_ => some k_ ≠ ((.slice Ao64 t347.length co64) : Value).ownBlock) (.slice Ao34 t333.length co34) t333) ∧ Aside0 (Kd.R k37 37 wc w.heap.size (fun k_ => some k_ ≠ ((.slice Ao33 t330.length co33) : Value).ownBlock) (.slice Ao63 t344.length co63) t344) ∧ Aside0 (Kd.R (Kd.int .i64) 3 wc w.heap.size (fun k_ => some k_ ≠ ((.slice Ao34 t333.length co34) : Value).ownBlock) (.slice Ao64 t347.length co64) t347) ∧ Aside0 (wc.heap[gb323]? = some (.cells #[.int .i64 a0_0, .int .i64 a0_1, (.slice A0_2 l0_2.length c0_2), (.slice A0_3 l0_3.length c0_3)] 25 (0, 0))) ∧ Aside0 (wc.heap[gb324]? = some (.cells #[.int .i64 a1_0, .int .i64 a1_1, (.slice A1_2 l1_2.length c1_2), (.slice A1_3 l1_3.length c1_3)] 25 (0, 0))) ∧ Aside0 (wc.heap[gb337]? = some (.cells #[.int .i64 t328, .int .i64 t329, (.slice Ao33 t330.length co33), (.slice Ao34 t333.length co34)] 25 (0, 0))) ∧ Aside0 (wc.heap[gb351]? = some (.cells #[.int .i64 t342, .int .i64 t343, (.slice Ao63 t344.length co63), (.slice Ao64 t347.length co64)] 25 (0, 0))) ∧ Aside0 (Below w.heap.size w wc))
                case first =>
                  have H := HC51.out
                  clear HC51
                  by_cases c65 : t336 = t350
                  · rw [if_pos c65] at H
                    have c65b0 : (t336 == t350) = true := beq_iff_eq.mpr c65
                    have c65b1 : (t336 != t350) = false := bne_eq_false_iff_eq.mpr c65
                    clear c65
                    (first | rw [c65b0] | (simp only [i64_w, i32_w]; rw [c65b0]) | skip)
                    replace H := Option.bind_eq_some_iff.mp H
                    obtain ⟨t352, A660, H⟩ := H
                    replace H : (if t352 = true then ((swagelaw08_live.f kj23).bind fun t353 => (swagelaw08_ProgJoins.j2 kj23 t336 (!t353) a0_0 a0_1 l0_2 l0_3 a1_0 a1_1 l1_2 l1_3 t328 t329 t330 t333)) else (swagelaw08_ProgJoins.j2 kj23 t336 true a0_0 a0_1 l0_2 l0_3 a1_0 a1_1 l1_2 l1_3 t328 t329 t330 t333)) = some r := H
                    have A66 := Aside0.mk A660
                    clear A660
                    by_cases c67 : t352 = true
                    · subst c67
                      have H1 : ((swagelaw08_live.f kj23).bind fun t353 => (swagelaw08_ProgJoins.j2 kj23 t336 (!t353) a0_0 a0_1 l0_2 l0_3 a1_0 a1_1 l1_2 l1_3 t328 t329 t330 t333)) = some r := by rw [if_pos rfl] at H; exact H
                      clear H
                      have H := H1
                      clear H1
                      replace H := Option.bind_eq_some_iff.mp H
                      obtain ⟨t353, A680, H⟩ := H
                      replace H : (swagelaw08_ProgJoins.j2 kj23 t336 (!t353) a0_0 a0_1 l0_2 l0_3 a1_0 a1_1 l1_2 l1_3 t328 t329 t330 t333) = some r := H
                      have A68 := Aside0.mk A680
                      clear A680
                      have H' := Aside0.mk H
                      clear H
                      have hnb69 := NB337_323.out
                      have hnc69 := NB323_337.out
                      have hnb70 := NB337_324.out
                      have hnc70 := NB324_337.out
                      have hnb71 := NB337_351.out
                      have hnc71 := NB351_337.out
                      have hcz72_0 : w58.cell? ⟨gb337, 0, none⟩ = some (.int .i64 t328) := (blk_cell BK337.out 0).trans rfl
                      have hcz72_1 : w58.cell? ⟨gb337, 1, none⟩ = some (.int .i64 t329) := (blk_cell BK337.out 1).trans rfl
                      have hcz72_2 : w58.cell? ⟨gb337, 2, none⟩ = some (.slice Ao33 t330.length co33) := (blk_cell BK337.out 2).trans rfl
                      have hcz72_3 : w58.cell? ⟨gb337, 3, none⟩ = some (.slice Ao34 t333.length co34) := (blk_cell BK337.out 3).trans rfl
                      have hfz72_0 := blk_frozen BK337.out 0
                      have hfz72_1 := blk_frozen BK337.out 1
                      have hfz72_2 := blk_frozen BK337.out 2
                      have hfz72_3 := blk_frozen BK337.out 3
                      have hnb73 := NB351_323.out
                      have hnc73 := NB323_351.out
                      have hnb74 := NB351_324.out
                      have hnc74 := NB324_351.out
                      have hcz75_0 : w58.cell? ⟨gb351, 0, none⟩ = some (.int .i64 0) := (blk_cell BK351.out 0).trans rfl
                      have hcz75_1 : w58.cell? ⟨gb351, 1, none⟩ = some (.int .i64 0) := (blk_cell BK351.out 1).trans rfl
                      have hcz75_2 : w58.cell? ⟨gb351, 2, none⟩ = some (.slice none 0 0) := (blk_cell BK351.out 2).trans rfl
                      have hcz75_3 : w58.cell? ⟨gb351, 3, none⟩ = some (.slice none 0 0) := (blk_cell BK351.out 3).trans rfl
                      have hfz75_0 := blk_frozen BK351.out 0
                      have hfz75_1 := blk_frozen BK351.out 1
                      have hfz75_2 := blk_frozen BK351.out 2
                      have hfz75_3 := blk_frozen BK351.out 3
                      go_wp2_with (first | (go_at_call 16; (with_reducible refine (swageref08_Same.calls kj23 t328 t329 _ _ t330 _ _ t333 t342 t343 _ _ t344 _ _ t347 true _ ?side1 ?side2 ?side3 ?side4 ?side5 ?side6 ?side7 ?side8 A66.out).mono ?_); (case side1 => refine (Kd.R_reads' (e := 37) (base := w.heap.size) (ok := fun k_ => (True ∧ some k_ ≠ (.slice Ao63 t344.length co63 : Value).ownBlock)) (n := t330.length) (c := co33) ?_).2.2; exact (by (with_reducible repeat (first | apply Kd.R_alloc | apply Kd.R_drewN | apply Kd.R_drew)); exact (Kd.R_mono (Kd.R_far (p := ⟨gb351, 3, none⟩) (Kd.R_far (p := ⟨gb351, 2, none⟩) (Kd.R_far (p := ⟨gb351, 1, none⟩) (Kd.R_far (p := ⟨gb351, 0, none⟩) (Kd.R_types HO_338002.out BK351.out (by decide)) (fun _ hk => hk.2) (.int .i64 t342)) (fun _ hk => hk.2) (.int .i64 t343)) (fun _ hk => hk.2) (.slice Ao63 t344.length co63)) (fun _ hk => hk.2) (.slice Ao64 t347.length co64)) (fun _ h_ => h_.1)))); (case side2 => exact (Kd.R_reads' HO_338002.out).2.1); (case side3 => refine (Kd.R_reads' (e := 3) (base := w.heap.size) (ok := fun k_ => (True ∧ some k_ ≠ (.slice Ao64 t347.length co64 : Value).ownBlock)) (n := t333.length) (c := co34) ?_).2.2; exact (by (with_reducible repeat (first | apply Kd.R_alloc | apply Kd.R_drewN | apply Kd.R_drew)); exact (Kd.R_mono (Kd.R_far (p := ⟨gb351, 3, none⟩) (Kd.R_far (p := ⟨gb351, 2, none⟩) (Kd.R_far (p := ⟨gb351, 1, none⟩) (Kd.R_far (p := ⟨gb351, 0, none⟩) (Kd.R_types HO_338003.out BK351.out (by decide)) (fun _ hk => hk.2) (.int .i64 t342)) (fun _ hk => hk.2) (.int .i64 t343)) (fun _ hk => hk.2) (.slice Ao63 t344.length co63)) (fun _ hk => hk.2) (.slice Ao64 t347.length co64)) (fun _ h_ => h_.1)))); (case side4 => exact (Kd.R_reads' HO_338003.out).2.1); (case side5 => refine (Kd.R_reads' (e := 37) (base := w.heap.size) (ok := fun k_ => (True ∧ some k_ ≠ (.slice Ao33 t330.length co33 : Value).ownBlock)) (n := t344.length) (c := co63) ?_).2.2; exact (by (with_reducible repeat (first | apply Kd.R_alloc | apply Kd.R_drewN | apply Kd.R_drew)); exact (Kd.R_mono (Kd.R_far (p := ⟨gb351, 3, none⟩) (Kd.R_far (p := ⟨gb351, 2, none⟩) (Kd.R_far (p := ⟨gb351, 1, none⟩) (Kd.R_far (p := ⟨gb351, 0, none⟩) (Kd.R_types HO346.out BK351.out (by decide)) (fun _ hk => hk.2) (.int .i64 t342)) (fun _ hk => hk.2) (.int .i64 t343)) (fun _ hk => hk.2) (.slice Ao63 t344.length co63)) (fun _ hk => hk.2) (.slice Ao64 t347.length co64)) (fun _ h_ => h_.1)))); (case side6 => exact (Kd.R_reads' HO346.out).2.1); (case side7 => refine (Kd.R_reads' (e := 3) (base := w.heap.size) (ok := fun k_ => (True ∧ some k_ ≠ (.slice Ao34 t333.length co34 : Value).ownBlock)) (n := t347.length) (c := co64) ?_).2.2; exact (by (with_reducible repeat (first | apply Kd.R_alloc | apply Kd.R_drewN | apply Kd.R_drew)); exact (Kd.R_mono (Kd.R_far (p := ⟨gb351, 3, none⟩) (Kd.R_far (p := ⟨gb351, 2, none⟩) (Kd.R_far (p := ⟨gb351, 1, none⟩) (Kd.R_far (p := ⟨gb351, 0, none⟩) (Kd.R_types HO349.out BK351.out (by decide)) (fun _ hk => hk.2) (.int .i64 t342)) (fun _ hk => hk.2) (.int .i64 t343)) (fun _ hk => hk.2) (.slice Ao63 t344.length co63)) (fun _ hk => hk.2) (.slice Ao64 t347.length co64)) (fun _ h_ => h_.1)))); (case side8 => exact (Kd.R_reads' HO349.out).2.1); rintro e w76 ⟨rfl, hb⟩; have n0_ := Aside0.mk (Kd.R_below (by (with_reducible repeat (first | apply Kd.R_alloc | apply Kd.R_drewN | apply Kd.R_drew)); exact (Kd.R_mono (Kd.R_far (p := ⟨gb351, 3, none⟩) (Kd.R_far (p := ⟨gb351, 2, none⟩) (Kd.R_far (p := ⟨gb351, 1, none⟩) (Kd.R_far (p := ⟨gb351, 0, none⟩) (Kd.R_types HO_338002.out BK351.out (by decide)) (fun _ hk => hk.2) (.int .i64 t342)) (fun _ hk => hk.2) (.int .i64 t343)) (fun _ hk => hk.2) (.slice Ao63 t344.length co63)) (fun _ hk => hk.2) (.slice Ao64 t347.length co64)) (fun _ h_ => h_.1))) hb); have n1_ := Aside0.mk (Kd.R_below (by (with_reducible repeat (first | apply Kd.R_alloc | apply Kd.R_drewN | apply Kd.R_drew)); exact (Kd.R_mono (Kd.R_far (p := ⟨gb351, 3, none⟩) (Kd.R_far (p := ⟨gb351, 2, none⟩) (Kd.R_far (p := ⟨gb351, 1, none⟩) (Kd.R_far (p := ⟨gb351, 0, none⟩) (Kd.R_types HO_338003.out BK351.out (by decide)) (fun _ hk => hk.2) (.int .i64 t342)) (fun _ hk => hk.2) (.int .i64 t343)) (fun _ hk => hk.2) (.slice Ao63 t344.length co63)) (fun _ hk => hk.2) (.slice Ao64 t347.length co64)) (fun _ h_ => h_.1))) hb); have n2_ := Aside0.mk (Kd.R_below (by (with_reducible repeat (first | apply Kd.R_alloc | apply Kd.R_drewN | apply Kd.R_drew)); exact (Kd.R_mono (Kd.R_far (p := ⟨gb351, 3, none⟩) (Kd.R_far (p := ⟨gb351, 2, none⟩) (Kd.R_far (p := ⟨gb351, 1, none⟩) (Kd.R_far (p := ⟨gb351, 0, none⟩) (Kd.R_types HO346.out BK351.out (by decide)) (fun _ hk => hk.2) (.int .i64 t342)) (fun _ hk => hk.2) (.int .i64 t343)) (fun _ hk => hk.2) (.slice Ao63 t344.length co63)) (fun _ hk => hk.2) (.slice Ao64 t347.length co64)) (fun _ h_ => h_.1))) hb); have n3_ := Aside0.mk (Kd.R_below (by (with_reducible repeat (first | apply Kd.R_alloc | apply Kd.R_drewN | apply Kd.R_drew)); exact (Kd.R_mono (Kd.R_far (p := ⟨gb351, 3, none⟩) (Kd.R_far (p := ⟨gb351, 2, none⟩) (Kd.R_far (p := ⟨gb351, 1, none⟩) (Kd.R_far (p := ⟨gb351, 0, none⟩) (Kd.R_types HO349.out BK351.out (by decide)) (fun _ hk => hk.2) (.int .i64 t342)) (fun _ hk => hk.2) (.int .i64 t343)) (fun _ hk => hk.2) (.slice Ao63 t344.length co63)) (fun _ hk => hk.2) (.slice Ao64 t347.length co64)) (fun _ h_ => h_.1))) hb); have n4_ := Aside0.mk (blk_below (g := gb323) (o := .cells #[.int .i64 a0_0, .int .i64 a0_1, .slice A0_2 l0_2.length c0_2, .slice A0_3 l0_3.length c0_3] 25 (0, 0)) (by (with_reducible repeat (first | refine blk_drewN ?_ _ | refine blk_drew ?_ | refine blk_alloc ?_ _)); refine blk_far ?_ NB323_351.out _; (with_reducible repeat (first | refine blk_drewN ?_ _ | refine blk_drew ?_ | refine blk_alloc ?_ _)); refine blk_far ?_ NB323_351.out _; (with_reducible repeat (first | refine blk_drewN ?_ _ | refine blk_drew ?_ | refine blk_alloc ?_ _)); refine blk_far ?_ NB323_351.out _; (with_reducible repeat (first | refine blk_drewN ?_ _ | refine blk_drew ?_ | refine blk_alloc ?_ _)); refine blk_far ?_ NB323_351.out _; (with_reducible repeat (first | refine blk_drewN ?_ _ | refine blk_drew ?_ | refine blk_alloc ?_ _)); exact BK323.out) hb); have n5_ := Aside0.mk (blk_below (g := gb324) (o := .cells #[.int .i64 a1_0, .int .i64 a1_1, .slice A1_2 l1_2.length c1_2, .slice A1_3 l1_3.length c1_3] 25 (0, 0)) (by (with_reducible repeat (first | refine blk_drewN ?_ _ | refine blk_drew ?_ | refine blk_alloc ?_ _)); refine blk_far ?_ NB324_351.out _; (with_reducible repeat (first | refine blk_drewN ?_ _ | refine blk_drew ?_ | refine blk_alloc ?_ _)); refine blk_far ?_ NB324_351.out _; (with_reducible repeat (first | refine blk_drewN ?_ _ | refine blk_drew ?_ | refine blk_alloc ?_ _)); refine blk_far ?_ NB324_351.out _; (with_reducible repeat (first | refine blk_drewN ?_ _ | refine blk_drew ?_ | refine blk_alloc ?_ _)); refine blk_far ?_ NB324_351.out _; (with_reducible repeat (first | refine blk_drewN ?_ _ | refine blk_drew ?_ | refine blk_alloc ?_ _)); exact BK324.out) hb); have n6_ := Aside0.mk (blk_below (g := gb337) (o := .cells #[.int .i64 t328, .int .i64 t329, .slice Ao33 t330.length co33, .slice Ao34 t333.length co34] 25 (0, 0)) (by (with_reducible repeat (first | refine blk_drewN ?_ _ | refine blk_drew ?_ | refine blk_alloc ?_ _)); refine blk_far ?_ NB337_351.out _; (with_reducible repeat (first | refine blk_drewN ?_ _ | refine blk_drew ?_ | refine blk_alloc ?_ _)); refine blk_far ?_ NB337_351.out _; (with_reducible repeat (first | refine blk_drewN ?_ _ | refine blk_drew ?_ | refine blk_alloc ?_ _)); refine blk_far ?_ NB337_351.out _; (with_reducible repeat (first | refine blk_drewN ?_ _ | refine blk_drew ?_ | refine blk_alloc ?_ _)); refine blk_far ?_ NB337_351.out _; (with_reducible repeat (first | refine blk_drewN ?_ _ | refine blk_drew ?_ | refine blk_alloc ?_ _)); exact BK337.out) hb); have n7_ := Aside0.mk (blk_below (g := gb351) (o := .cells #[.int .i64 t342, .int .i64 t343, .slice Ao63 t344.length co63, .slice Ao64 t347.length co64] 25 (0, 0)) (by (with_reducible repeat (first | refine blk_drewN ?_ _ | refine blk_drew ?_ | refine blk_alloc ?_ _)); refine blk_put (cs := #[.int .i64 t342, .int .i64 t343, .slice Ao63 t344.length co63, .slice none 0 0]) ?_ 3 _ rfl; (with_reducible repeat (first | refine blk_drewN ?_ _ | refine blk_drew ?_ | refine blk_alloc ?_ _)); refine blk_put (cs := #[.int .i64 t342, .int .i64 t343, .slice none 0 0, .slice none 0 0]) ?_ 2 _ rfl; (with_reducible repeat (first | refine blk_drewN ?_ _ | refine blk_drew ?_ | refine blk_alloc ?_ _)); refine blk_put (cs := #[.int .i64 t342, .int .i64 0, .slice none 0 0, .slice none 0 0]) ?_ 1 _ rfl; (with_reducible repeat (first | refine blk_drewN ?_ _ | refine blk_drew ?_ | refine blk_alloc ?_ _)); refine blk_put (cs := #[.int .i64 0, .int .i64 0, .slice none 0 0, .slice none 0 0]) ?_ 0 _ rfl; (with_reducible repeat (first | refine blk_drewN ?_ _ | refine blk_drew ?_ | refine blk_alloc ?_ _)); exact BK351.out) hb); have n8_ := Aside0.mk (below_step (by repeat (first | (with_reducible first | exact HB.out | apply below_alloc | apply pw_below_drewN | apply below_drew1 | refine below_set ?_ GE323.out | refine below_set ?_ GE324.out | refine below_set ?_ GE337.out | refine below_set ?_ GE351.out) | exact HB.out)) hb); clear HO_338002; clear HO_338003; clear HO346; clear HO349; clear BK323; clear BK324; clear BK337; clear BK351; clear HB; have HO_338002 := n0_; have HO_338003 := n1_; have HO346 := n2_; have HO349 := n3_; have BK323 := n4_; have BK324 := n5_; have BK337 := n6_; have BK351 := n7_; have HB := n8_; clear n0_ n1_ n2_ n3_ n4_ n5_ n6_ n7_ n8_; (try clear hb); (try clear hb2); (try clear hk); (try clear hi)) | (go_at_call 10; (with_reducible refine (swagelaw08_live.calls kj23  t353 _ A68.out).mono ?_); rintro e w77 ⟨rfl, hb⟩; have n0_ := Aside0.mk (Kd.R_below (by (with_reducible repeat (first | apply Kd.R_alloc | apply Kd.R_drewN | apply Kd.R_drew)); exact HO_338002.out) hb); have n1_ := Aside0.mk (Kd.R_below (by (with_reducible repeat (first | apply Kd.R_alloc | apply Kd.R_drewN | apply Kd.R_drew)); exact HO_338003.out) hb); have n2_ := Aside0.mk (Kd.R_below (by (with_reducible repeat (first | apply Kd.R_alloc | apply Kd.R_drewN | apply Kd.R_drew)); exact HO346.out) hb); have n3_ := Aside0.mk (Kd.R_below (by (with_reducible repeat (first | apply Kd.R_alloc | apply Kd.R_drewN | apply Kd.R_drew)); exact HO349.out) hb); have n4_ := Aside0.mk (blk_below (g := gb323) (o := .cells #[.int .i64 a0_0, .int .i64 a0_1, .slice A0_2 l0_2.length c0_2, .slice A0_3 l0_3.length c0_3] 25 (0, 0)) (by (with_reducible repeat (first | refine blk_drewN ?_ _ | refine blk_drew ?_ | refine blk_alloc ?_ _)); exact BK323.out) hb); have n5_ := Aside0.mk (blk_below (g := gb324) (o := .cells #[.int .i64 a1_0, .int .i64 a1_1, .slice A1_2 l1_2.length c1_2, .slice A1_3 l1_3.length c1_3] 25 (0, 0)) (by (with_reducible repeat (first | refine blk_drewN ?_ _ | refine blk_drew ?_ | refine blk_alloc ?_ _)); exact BK324.out) hb); have n6_ := Aside0.mk (blk_below (g := gb337) (o := .cells #[.int .i64 t328, .int .i64 t329, .slice Ao33 t330.length co33, .slice Ao34 t333.length co34] 25 (0, 0)) (by (with_reducible repeat (first | refine blk_drewN ?_ _ | refine blk_drew ?_ | refine blk_alloc ?_ _)); exact BK337.out) hb); have n7_ := Aside0.mk (blk_below (g := gb351) (o := .cells #[.int .i64 t342, .int .i64 t343, .slice Ao63 t344.length co63, .slice Ao64 t347.length co64] 25 (0, 0)) (by (with_reducible repeat (first | refine blk_drewN ?_ _ | refine blk_drew ?_ | refine blk_alloc ?_ _)); exact BK351.out) hb); have n8_ := Aside0.mk (below_step (by repeat (first | (with_reducible first | exact HB.out | apply below_alloc | apply pw_below_drewN | apply below_drew1 | refine below_set ?_ GE323.out | refine below_set ?_ GE324.out | refine below_set ?_ GE337.out | refine below_set ?_ GE351.out) | exact HB.out)) hb); clear HO_338002; clear HO_338003; clear HO346; clear HO349; clear BK323; clear BK324; clear BK337; clear BK351; clear HB; have HO_338002 := n0_; have HO_338003 := n1_; have HO346 := n2_; have HO349 := n3_; have BK323 := n4_; have BK324 := n5_; have BK337 := n6_; have BK351 := n7_; have HB := n8_; clear n0_ n1_ n2_ n3_ n4_ n5_ n6_ n7_ n8_; (try clear hb); (try clear hb2); (try clear hk); (try clear hi)))
                      go_meet
                      case rel => exact ⟨_, (!t353), (by first | rfl | (simp; done) | (simp [*]; done)), H', ⟨by have := HJ4.out; have := HJ23.out; first | omega | exact Nat.le_refl _⟩, ⟨by (with_reducible repeat (first | apply Kd.R_alloc | apply Kd.R_drewN | apply Kd.R_drew)); exact Kd.R_mono HO_338002.out (fun _ hk => hk.2)⟩, ⟨by (with_reducible repeat (first | apply Kd.R_alloc | apply Kd.R_drewN | apply Kd.R_drew)); exact Kd.R_mono HO_338003.out (fun _ hk => hk.2)⟩, ⟨by (with_reducible repeat (first | apply Kd.R_alloc | apply Kd.R_drewN | apply Kd.R_drew)); exact Kd.R_mono HO346.out (fun _ hk => hk.2)⟩, ⟨by (with_reducible repeat (first | apply Kd.R_alloc | apply Kd.R_drewN | apply Kd.R_drew)); exact Kd.R_mono HO349.out (fun _ hk => hk.2)⟩, ⟨by (with_reducible repeat (first | refine blk_drewN ?_ _ | refine blk_drew ?_ | refine blk_alloc ?_ _)); exact BK323.out⟩, ⟨by (with_reducible repeat (first | refine blk_drewN ?_ _ | refine blk_drew ?_ | refine blk_alloc ?_ _)); exact BK324.out⟩, ⟨by (with_reducible repeat (first | refine blk_drewN ?_ _ | refine blk_drew ?_ | refine blk_alloc ?_ _)); exact BK337.out⟩, ⟨by (with_reducible repeat (first | refine blk_drewN ?_ _ | refine blk_drew ?_ | refine blk_alloc ?_ _)); exact BK351.out⟩, ⟨by repeat (first | (with_reducible first | exact HB.out | apply below_alloc | apply pw_below_drewN | apply below_drew1 | refine below_set ?_ GE323.out | refine below_set ?_ GE324.out | refine below_set ?_ GE337.out | refine below_set ?_ GE351.out) | exact HB.out)⟩⟩
                    · replace c67 := Bool.eq_false_iff.mpr c67
                      subst c67
                      have H1 : (swagelaw08_ProgJoins.j2 kj23 t336 true a0_0 a0_1 l0_2 l0_3 a1_0 a1_1 l1_2 l1_3 t328 t329 t330 t333) = some r := by rw [if_neg (show ¬ (false = true) by decide)] at H; exact H
                      clear H
                      have H := H1
                      clear H1
                      have H' := Aside0.mk H
                      clear H
                      have hnb78 := NB337_323.out
                      have hnc78 := NB323_337.out
                      have hnb79 := NB337_324.out
                      have hnc79 := NB324_337.out
                      have hnb80 := NB337_351.out
                      have hnc80 := NB351_337.out
                      have hcz81_0 : w58.cell? ⟨gb337, 0, none⟩ = some (.int .i64 t328) := (blk_cell BK337.out 0).trans rfl
                      have hcz81_1 : w58.cell? ⟨gb337, 1, none⟩ = some (.int .i64 t329) := (blk_cell BK337.out 1).trans rfl
                      have hcz81_2 : w58.cell? ⟨gb337, 2, none⟩ = some (.slice Ao33 t330.length co33) := (blk_cell BK337.out 2).trans rfl
                      have hcz81_3 : w58.cell? ⟨gb337, 3, none⟩ = some (.slice Ao34 t333.length co34) := (blk_cell BK337.out 3).trans rfl
                      have hfz81_0 := blk_frozen BK337.out 0
                      have hfz81_1 := blk_frozen BK337.out 1
                      have hfz81_2 := blk_frozen BK337.out 2
                      have hfz81_3 := blk_frozen BK337.out 3
                      have hnb82 := NB351_323.out
                      have hnc82 := NB323_351.out
                      have hnb83 := NB351_324.out
                      have hnc83 := NB324_351.out
                      have hcz84_0 : w58.cell? ⟨gb351, 0, none⟩ = some (.int .i64 0) := (blk_cell BK351.out 0).trans rfl
                      have hcz84_1 : w58.cell? ⟨gb351, 1, none⟩ = some (.int .i64 0) := (blk_cell BK351.out 1).trans rfl
                      have hcz84_2 : w58.cell? ⟨gb351, 2, none⟩ = some (.slice none 0 0) := (blk_cell BK351.out 2).trans rfl
                      have hcz84_3 : w58.cell? ⟨gb351, 3, none⟩ = some (.slice none 0 0) := (blk_cell BK351.out 3).trans rfl
                      have hfz84_0 := blk_frozen BK351.out 0
                      have hfz84_1 := blk_frozen BK351.out 1
                      have hfz84_2 := blk_frozen BK351.out 2
                      have hfz84_3 := blk_frozen BK351.out 3
                      go_wp2_with (first | (go_at_call 16; (with_reducible refine (swageref08_Same.calls kj23 t328 t329 _ _ t330 _ _ t333 t342 t343 _ _ t344 _ _ t347 false _ ?side1 ?side2 ?side3 ?side4 ?side5 ?side6 ?side7 ?side8 A66.out).mono ?_); (case side1 => refine (Kd.R_reads' (e := 37) (base := w.heap.size) (ok := fun k_ => (True ∧ some k_ ≠ (.slice Ao63 t344.length co63 : Value).ownBlock)) (n := t330.length) (c := co33) ?_).2.2; exact (by (with_reducible repeat (first | apply Kd.R_alloc | apply Kd.R_drewN | apply Kd.R_drew)); exact (Kd.R_mono (Kd.R_far (p := ⟨gb351, 3, none⟩) (Kd.R_far (p := ⟨gb351, 2, none⟩) (Kd.R_far (p := ⟨gb351, 1, none⟩) (Kd.R_far (p := ⟨gb351, 0, none⟩) (Kd.R_types HO_338002.out BK351.out (by decide)) (fun _ hk => hk.2) (.int .i64 t342)) (fun _ hk => hk.2) (.int .i64 t343)) (fun _ hk => hk.2) (.slice Ao63 t344.length co63)) (fun _ hk => hk.2) (.slice Ao64 t347.length co64)) (fun _ h_ => h_.1)))); (case side2 => exact (Kd.R_reads' HO_338002.out).2.1); (case side3 => refine (Kd.R_reads' (e := 3) (base := w.heap.size) (ok := fun k_ => (True ∧ some k_ ≠ (.slice Ao64 t347.length co64 : Value).ownBlock)) (n := t333.length) (c := co34) ?_).2.2; exact (by (with_reducible repeat (first | apply Kd.R_alloc | apply Kd.R_drewN | apply Kd.R_drew)); exact (Kd.R_mono (Kd.R_far (p := ⟨gb351, 3, none⟩) (Kd.R_far (p := ⟨gb351, 2, none⟩) (Kd.R_far (p := ⟨gb351, 1, none⟩) (Kd.R_far (p := ⟨gb351, 0, none⟩) (Kd.R_types HO_338003.out BK351.out (by decide)) (fun _ hk => hk.2) (.int .i64 t342)) (fun _ hk => hk.2) (.int .i64 t343)) (fun _ hk => hk.2) (.slice Ao63 t344.length co63)) (fun _ hk => hk.2) (.slice Ao64 t347.length co64)) (fun _ h_ => h_.1)))); (case side4 => exact (Kd.R_reads' HO_338003.out).2.1); (case side5 => refine (Kd.R_reads' (e := 37) (base := w.heap.size) (ok := fun k_ => (True ∧ some k_ ≠ (.slice Ao33 t330.length co33 : Value).ownBlock)) (n := t344.length) (c := co63) ?_).2.2; exact (by (with_reducible repeat (first | apply Kd.R_alloc | apply Kd.R_drewN | apply Kd.R_drew)); exact (Kd.R_mono (Kd.R_far (p := ⟨gb351, 3, none⟩) (Kd.R_far (p := ⟨gb351, 2, none⟩) (Kd.R_far (p := ⟨gb351, 1, none⟩) (Kd.R_far (p := ⟨gb351, 0, none⟩) (Kd.R_types HO346.out BK351.out (by decide)) (fun _ hk => hk.2) (.int .i64 t342)) (fun _ hk => hk.2) (.int .i64 t343)) (fun _ hk => hk.2) (.slice Ao63 t344.length co63)) (fun _ hk => hk.2) (.slice Ao64 t347.length co64)) (fun _ h_ => h_.1)))); (case side6 => exact (Kd.R_reads' HO346.out).2.1); (case side7 => refine (Kd.R_reads' (e := 3) (base := w.heap.size) (ok := fun k_ => (True ∧ some k_ ≠ (.slice Ao34 t333.length co34 : Value).ownBlock)) (n := t347.length) (c := co64) ?_).2.2; exact (by (with_reducible repeat (first | apply Kd.R_alloc | apply Kd.R_drewN | apply Kd.R_drew)); exact (Kd.R_mono (Kd.R_far (p := ⟨gb351, 3, none⟩) (Kd.R_far (p := ⟨gb351, 2, none⟩) (Kd.R_far (p := ⟨gb351, 1, none⟩) (Kd.R_far (p := ⟨gb351, 0, none⟩) (Kd.R_types HO349.out BK351.out (by decide)) (fun _ hk => hk.2) (.int .i64 t342)) (fun _ hk => hk.2) (.int .i64 t343)) (fun _ hk => hk.2) (.slice Ao63 t344.length co63)) (fun _ hk => hk.2) (.slice Ao64 t347.length co64)) (fun _ h_ => h_.1)))); (case side8 => exact (Kd.R_reads' HO349.out).2.1); rintro e w85 ⟨rfl, hb⟩; have n0_ := Aside0.mk (Kd.R_below (by (with_reducible repeat (first | apply Kd.R_alloc | apply Kd.R_drewN | apply Kd.R_drew)); exact (Kd.R_mono (Kd.R_far (p := ⟨gb351, 3, none⟩) (Kd.R_far (p := ⟨gb351, 2, none⟩) (Kd.R_far (p := ⟨gb351, 1, none⟩) (Kd.R_far (p := ⟨gb351, 0, none⟩) (Kd.R_types HO_338002.out BK351.out (by decide)) (fun _ hk => hk.2) (.int .i64 t342)) (fun _ hk => hk.2) (.int .i64 t343)) (fun _ hk => hk.2) (.slice Ao63 t344.length co63)) (fun _ hk => hk.2) (.slice Ao64 t347.length co64)) (fun _ h_ => h_.1))) hb); have n1_ := Aside0.mk (Kd.R_below (by (with_reducible repeat (first | apply Kd.R_alloc | apply Kd.R_drewN | apply Kd.R_drew)); exact (Kd.R_mono (Kd.R_far (p := ⟨gb351, 3, none⟩) (Kd.R_far (p := ⟨gb351, 2, none⟩) (Kd.R_far (p := ⟨gb351, 1, none⟩) (Kd.R_far (p := ⟨gb351, 0, none⟩) (Kd.R_types HO_338003.out BK351.out (by decide)) (fun _ hk => hk.2) (.int .i64 t342)) (fun _ hk => hk.2) (.int .i64 t343)) (fun _ hk => hk.2) (.slice Ao63 t344.length co63)) (fun _ hk => hk.2) (.slice Ao64 t347.length co64)) (fun _ h_ => h_.1))) hb); have n2_ := Aside0.mk (Kd.R_below (by (with_reducible repeat (first | apply Kd.R_alloc | apply Kd.R_drewN | apply Kd.R_drew)); exact (Kd.R_mono (Kd.R_far (p := ⟨gb351, 3, none⟩) (Kd.R_far (p := ⟨gb351, 2, none⟩) (Kd.R_far (p := ⟨gb351, 1, none⟩) (Kd.R_far (p := ⟨gb351, 0, none⟩) (Kd.R_types HO346.out BK351.out (by decide)) (fun _ hk => hk.2) (.int .i64 t342)) (fun _ hk => hk.2) (.int .i64 t343)) (fun _ hk => hk.2) (.slice Ao63 t344.length co63)) (fun _ hk => hk.2) (.slice Ao64 t347.length co64)) (fun _ h_ => h_.1))) hb); have n3_ := Aside0.mk (Kd.R_below (by (with_reducible repeat (first | apply Kd.R_alloc | apply Kd.R_drewN | apply Kd.R_drew)); exact (Kd.R_mono (Kd.R_far (p := ⟨gb351, 3, none⟩) (Kd.R_far (p := ⟨gb351, 2, none⟩) (Kd.R_far (p := ⟨gb351, 1, none⟩) (Kd.R_far (p := ⟨gb351, 0, none⟩) (Kd.R_types HO349.out BK351.out (by decide)) (fun _ hk => hk.2) (.int .i64 t342)) (fun _ hk => hk.2) (.int .i64 t343)) (fun _ hk => hk.2) (.slice Ao63 t344.length co63)) (fun _ hk => hk.2) (.slice Ao64 t347.length co64)) (fun _ h_ => h_.1))) hb); have n4_ := Aside0.mk (blk_below (g := gb323) (o := .cells #[.int .i64 a0_0, .int .i64 a0_1, .slice A0_2 l0_2.length c0_2, .slice A0_3 l0_3.length c0_3] 25 (0, 0)) (by (with_reducible repeat (first | refine blk_drewN ?_ _ | refine blk_drew ?_ | refine blk_alloc ?_ _)); refine blk_far ?_ NB323_351.out _; (with_reducible repeat (first | refine blk_drewN ?_ _ | refine blk_drew ?_ | refine blk_alloc ?_ _)); refine blk_far ?_ NB323_351.out _; (with_reducible repeat (first | refine blk_drewN ?_ _ | refine blk_drew ?_ | refine blk_alloc ?_ _)); refine blk_far ?_ NB323_351.out _; (with_reducible repeat (first | refine blk_drewN ?_ _ | refine blk_drew ?_ | refine blk_alloc ?_ _)); refine blk_far ?_ NB323_351.out _; (with_reducible repeat (first | refine blk_drewN ?_ _ | refine blk_drew ?_ | refine blk_alloc ?_ _)); exact BK323.out) hb); have n5_ := Aside0.mk (blk_below (g := gb324) (o := .cells #[.int .i64 a1_0, .int .i64 a1_1, .slice A1_2 l1_2.length c1_2, .slice A1_3 l1_3.length c1_3] 25 (0, 0)) (by (with_reducible repeat (first | refine blk_drewN ?_ _ | refine blk_drew ?_ | refine blk_alloc ?_ _)); refine blk_far ?_ NB324_351.out _; (with_reducible repeat (first | refine blk_drewN ?_ _ | refine blk_drew ?_ | refine blk_alloc ?_ _)); refine blk_far ?_ NB324_351.out _; (with_reducible repeat (first | refine blk_drewN ?_ _ | refine blk_drew ?_ | refine blk_alloc ?_ _)); refine blk_far ?_ NB324_351.out _; (with_reducible repeat (first | refine blk_drewN ?_ _ | refine blk_drew ?_ | refine blk_alloc ?_ _)); refine blk_far ?_ NB324_351.out _; (with_reducible repeat (first | refine blk_drewN ?_ _ | refine blk_drew ?_ | refine blk_alloc ?_ _)); exact BK324.out) hb); have n6_ := Aside0.mk (blk_below (g := gb337) (o := .cells #[.int .i64 t328, .int .i64 t329, .slice Ao33 t330.length co33, .slice Ao34 t333.length co34] 25 (0, 0)) (by (with_reducible repeat (first | refine blk_drewN ?_ _ | refine blk_drew ?_ | refine blk_alloc ?_ _)); refine blk_far ?_ NB337_351.out _; (with_reducible repeat (first | refine blk_drewN ?_ _ | refine blk_drew ?_ | refine blk_alloc ?_ _)); refine blk_far ?_ NB337_351.out _; (with_reducible repeat (first | refine blk_drewN ?_ _ | refine blk_drew ?_ | refine blk_alloc ?_ _)); refine blk_far ?_ NB337_351.out _; (with_reducible repeat (first | refine blk_drewN ?_ _ | refine blk_drew ?_ | refine blk_alloc ?_ _)); refine blk_far ?_ NB337_351.out _; (with_reducible repeat (first | refine blk_drewN ?_ _ | refine blk_drew ?_ | refine blk_alloc ?_ _)); exact BK337.out) hb); have n7_ := Aside0.mk (blk_below (g := gb351) (o := .cells #[.int .i64 t342, .int .i64 t343, .slice Ao63 t344.length co63, .slice Ao64 t347.length co64] 25 (0, 0)) (by (with_reducible repeat (first | refine blk_drewN ?_ _ | refine blk_drew ?_ | refine blk_alloc ?_ _)); refine blk_put (cs := #[.int .i64 t342, .int .i64 t343, .slice Ao63 t344.length co63, .slice none 0 0]) ?_ 3 _ rfl; (with_reducible repeat (first | refine blk_drewN ?_ _ | refine blk_drew ?_ | refine blk_alloc ?_ _)); refine blk_put (cs := #[.int .i64 t342, .int .i64 t343, .slice none 0 0, .slice none 0 0]) ?_ 2 _ rfl; (with_reducible repeat (first | refine blk_drewN ?_ _ | refine blk_drew ?_ | refine blk_alloc ?_ _)); refine blk_put (cs := #[.int .i64 t342, .int .i64 0, .slice none 0 0, .slice none 0 0]) ?_ 1 _ rfl; (with_reducible repeat (first | refine blk_drewN ?_ _ | refine blk_drew ?_ | refine blk_alloc ?_ _)); refine blk_put (cs := #[.int .i64 0, .int .i64 0, .slice none 0 0, .slice none 0 0]) ?_ 0 _ rfl; (with_reducible repeat (first | refine blk_drewN ?_ _ | refine blk_drew ?_ | refine blk_alloc ?_ _)); exact BK351.out) hb); have n8_ := Aside0.mk (below_step (by repeat (first | (with_reducible first | exact HB.out | apply below_alloc | apply pw_below_drewN | apply below_drew1 | refine below_set ?_ GE323.out | refine below_set ?_ GE324.out | refine below_set ?_ GE337.out | refine below_set ?_ GE351.out) | exact HB.out)) hb); clear HO_338002; clear HO_338003; clear HO346; clear HO349; clear BK323; clear BK324; clear BK337; clear BK351; clear HB; have HO_338002 := n0_; have HO_338003 := n1_; have HO346 := n2_; have HO349 := n3_; have BK323 := n4_; have BK324 := n5_; have BK337 := n6_; have BK351 := n7_; have HB := n8_; clear n0_ n1_ n2_ n3_ n4_ n5_ n6_ n7_ n8_; (try clear hb); (try clear hb2); (try clear hk); (try clear hi)))
                      go_meet
                      case rel => exact ⟨_, (true), (by first | rfl | (simp; done) | (simp [*]; done)), H', ⟨by have := HJ4.out; have := HJ23.out; first | omega | exact Nat.le_refl _⟩, ⟨by (with_reducible repeat (first | apply Kd.R_alloc | apply Kd.R_drewN | apply Kd.R_drew)); exact Kd.R_mono HO_338002.out (fun _ hk => hk.2)⟩, ⟨by (with_reducible repeat (first | apply Kd.R_alloc | apply Kd.R_drewN | apply Kd.R_drew)); exact Kd.R_mono HO_338003.out (fun _ hk => hk.2)⟩, ⟨by (with_reducible repeat (first | apply Kd.R_alloc | apply Kd.R_drewN | apply Kd.R_drew)); exact Kd.R_mono HO346.out (fun _ hk => hk.2)⟩, ⟨by (with_reducible repeat (first | apply Kd.R_alloc | apply Kd.R_drewN | apply Kd.R_drew)); exact Kd.R_mono HO349.out (fun _ hk => hk.2)⟩, ⟨by (with_reducible repeat (first | refine blk_drewN ?_ _ | refine blk_drew ?_ | refine blk_alloc ?_ _)); exact BK323.out⟩, ⟨by (with_reducible repeat (first | refine blk_drewN ?_ _ | refine blk_drew ?_ | refine blk_alloc ?_ _)); exact BK324.out⟩, ⟨by (with_reducible repeat (first | refine blk_drewN ?_ _ | refine blk_drew ?_ | refine blk_alloc ?_ _)); exact BK337.out⟩, ⟨by (with_reducible repeat (first | refine blk_drewN ?_ _ | refine blk_drew ?_ | refine blk_alloc ?_ _)); exact BK351.out⟩, ⟨by repeat (first | (with_reducible first | exact HB.out | apply below_alloc | apply pw_below_drewN | apply below_drew1 | refine below_set ?_ GE323.out | refine below_set ?_ GE324.out | refine below_set ?_ GE337.out | refine below_set ?_ GE351.out) | exact HB.out)⟩⟩
                  · rw [if_neg c65] at H
                    have c65b0 : (t336 == t350) = false := beq_eq_false_iff_ne.mpr c65
                    have c65b1 : (t336 != t350) = true := bne_iff_ne.mpr c65
                    (first | rw [c65b0] | (simp only [i64_w, i32_w]; rw [c65b0]) | skip)
                    have H' := Aside0.mk H
                    clear H
                    go_wp2
                    go_meet
                    case rel => exact ⟨_, (true), (by first | rfl | (simp; done) | (simp [*]; done)), H', ⟨by have := HJ4.out; have := HJ23.out; first | omega | exact Nat.le_refl _⟩, ⟨by (with_reducible repeat (first | apply Kd.R_alloc | apply Kd.R_drewN | apply Kd.R_drew)); exact Kd.R_mono (Kd.R_far (p := ⟨gb351, 3, none⟩) (Kd.R_far (p := ⟨gb351, 2, none⟩) (Kd.R_far (p := ⟨gb351, 1, none⟩) (Kd.R_far (p := ⟨gb351, 0, none⟩) (Kd.R_types HO_338002.out BK351.out (by decide)) (fun _ hk => hk.2) (.int .i64 t342)) (fun _ hk => hk.2) (.int .i64 t343)) (fun _ hk => hk.2) (.slice Ao63 t344.length co63)) (fun _ hk => hk.2) (.slice Ao64 t347.length co64)) (fun _ hk => hk.1.2)⟩, ⟨by (with_reducible repeat (first | apply Kd.R_alloc | apply Kd.R_drewN | apply Kd.R_drew)); exact Kd.R_mono (Kd.R_far (p := ⟨gb351, 3, none⟩) (Kd.R_far (p := ⟨gb351, 2, none⟩) (Kd.R_far (p := ⟨gb351, 1, none⟩) (Kd.R_far (p := ⟨gb351, 0, none⟩) (Kd.R_types HO_338003.out BK351.out (by decide)) (fun _ hk => hk.2) (.int .i64 t342)) (fun _ hk => hk.2) (.int .i64 t343)) (fun _ hk => hk.2) (.slice Ao63 t344.length co63)) (fun _ hk => hk.2) (.slice Ao64 t347.length co64)) (fun _ hk => hk.1.2)⟩, ⟨by (with_reducible repeat (first | apply Kd.R_alloc | apply Kd.R_drewN | apply Kd.R_drew)); exact Kd.R_mono (Kd.R_far (p := ⟨gb351, 3, none⟩) (Kd.R_far (p := ⟨gb351, 2, none⟩) (Kd.R_far (p := ⟨gb351, 1, none⟩) (Kd.R_far (p := ⟨gb351, 0, none⟩) (Kd.R_types HO346.out BK351.out (by decide)) (fun _ hk => hk.2) (.int .i64 t342)) (fun _ hk => hk.2) (.int .i64 t343)) (fun _ hk => hk.2) (.slice Ao63 t344.length co63)) (fun _ hk => hk.2) (.slice Ao64 t347.length co64)) (fun _ hk => hk.1.2)⟩, ⟨by (with_reducible repeat (first | apply Kd.R_alloc | apply Kd.R_drewN | apply Kd.R_drew)); exact Kd.R_mono (Kd.R_far (p := ⟨gb351, 3, none⟩) (Kd.R_far (p := ⟨gb351, 2, none⟩) (Kd.R_far (p := ⟨gb351, 1, none⟩) (Kd.R_far (p := ⟨gb351, 0, none⟩) (Kd.R_types HO349.out BK351.out (by decide)) (fun _ hk => hk.2) (.int .i64 t342)) (fun _ hk => hk.2) (.int .i64 t343)) (fun _ hk => hk.2) (.slice Ao63 t344.length co63)) (fun _ hk => hk.2) (.slice Ao64 t347.length co64)) (fun _ hk => hk.1.2)⟩, ⟨by (with_reducible repeat (first | refine blk_drewN ?_ _ | refine blk_drew ?_ | refine blk_alloc ?_ _)); refine blk_far ?_ NB323_351.out _; (with_reducible repeat (first | refine blk_drewN ?_ _ | refine blk_drew ?_ | refine blk_alloc ?_ _)); refine blk_far ?_ NB323_351.out _; (with_reducible repeat (first | refine blk_drewN ?_ _ | refine blk_drew ?_ | refine blk_alloc ?_ _)); refine blk_far ?_ NB323_351.out _; (with_reducible repeat (first | refine blk_drewN ?_ _ | refine blk_drew ?_ | refine blk_alloc ?_ _)); refine blk_far ?_ NB323_351.out _; (with_reducible repeat (first | refine blk_drewN ?_ _ | refine blk_drew ?_ | refine blk_alloc ?_ _)); exact BK323.out⟩, ⟨by (with_reducible repeat (first | refine blk_drewN ?_ _ | refine blk_drew ?_ | refine blk_alloc ?_ _)); refine blk_far ?_ NB324_351.out _; (with_reducible repeat (first | refine blk_drewN ?_ _ | refine blk_drew ?_ | refine blk_alloc ?_ _)); refine blk_far ?_ NB324_351.out _; (with_reducible repeat (first | refine blk_drewN ?_ _ | refine blk_drew ?_ | refine blk_alloc ?_ _)); refine blk_far ?_ NB324_351.out _; (with_reducible repeat (first | refine blk_drewN ?_ _ | refine blk_drew ?_ | refine blk_alloc ?_ _)); refine blk_far ?_ NB324_351.out _; (with_reducible repeat (first | refine blk_drewN ?_ _ | refine blk_drew ?_ | refine blk_alloc ?_ _)); exact BK324.out⟩, ⟨by (with_reducible repeat (first | refine blk_drewN ?_ _ | refine blk_drew ?_ | refine blk_alloc ?_ _)); refine blk_far ?_ NB337_351.out _; (with_reducible repeat (first | refine blk_drewN ?_ _ | refine blk_drew ?_ | refine blk_alloc ?_ _)); refine blk_far ?_ NB337_351.out _; (with_reducible repeat (first | refine blk_drewN ?_ _ | refine blk_drew ?_ | refine blk_alloc ?_ _)); refine blk_far ?_ NB337_351.out _; (with_reducible repeat (first | refine blk_drewN ?_ _ | refine blk_drew ?_ | refine blk_alloc ?_ _)); refine blk_far ?_ NB337_351.out _; (with_reducible repeat (first | refine blk_drewN ?_ _ | refine blk_drew ?_ | refine blk_alloc ?_ _)); exact BK337.out⟩, ⟨by (with_reducible repeat (first | refine blk_drewN ?_ _ | refine blk_drew ?_ | refine blk_alloc ?_ _)); refine blk_put (cs := #[.int .i64 t342, .int .i64 t343, .slice Ao63 t344.length co63, .slice none 0 0]) ?_ 3 _ rfl; (with_reducible repeat (first | refine blk_drewN ?_ _ | refine blk_drew ?_ | refine blk_alloc ?_ _)); refine blk_put (cs := #[.int .i64 t342, .int .i64 t343, .slice none 0 0, .slice none 0 0]) ?_ 2 _ rfl; (with_reducible repeat (first | refine blk_drewN ?_ _ | refine blk_drew ?_ | refine blk_alloc ?_ _)); refine blk_put (cs := #[.int .i64 t342, .int .i64 0, .slice none 0 0, .slice none 0 0]) ?_ 1 _ rfl; (with_reducible repeat (first | refine blk_drewN ?_ _ | refine blk_drew ?_ | refine blk_alloc ?_ _)); refine blk_put (cs := #[.int .i64 0, .int .i64 0, .slice none 0 0, .slice none 0 0]) ?_ 0 _ rfl; (with_reducible repeat (first | refine blk_drewN ?_ _ | refine blk_drew ?_ | refine blk_alloc ?_ _)); exact BK351.out⟩, ⟨by repeat (first | (with_reducible first | exact HB.out | apply below_alloc | apply pw_below_drewN | apply below_drew1 | refine below_set ?_ GE323.out | refine below_set ?_ GE324.out | refine below_set ?_ GE337.out | refine below_set ?_ GE351.out) | exact HB.out)⟩⟩
                case rest =>
                  clear HC51
                  try clear c4
                  try clear c20
                  try clear c40
                  obtain ⟨kq, x70_50, rfl, HA, HJ50, HO_338002, HO_338003, HO_352002, HO_352003, BK323, BK324, BK337, BK351, HB⟩ := hcut
                  cases kq with
                  | zero => exact absurd HA.out (by simp [swagelaw08_ProgJoins.j2])
                  | succ kj50 =>
                    have H := HA.out
                    clear HA
                    simp only [swagelaw08_ProgJoins.j2] at H
                    by_cases c86 : x70_50 = true
                    · subst c86
                      have H1 : (some false) = some r := by rw [if_pos rfl] at H; exact H
                      clear H
                      have H := H1
                      clear H1
                      obtain rfl := Option.some.inj H
                      exact absurd hT.out (by simp)
                    · replace c86 := Bool.eq_false_iff.mpr c86
                      subst c86
                      have H1 : (if t336 = 0 then ((prog_Depth.f kj50 a0_0 a0_1 l0_2 l0_3).bind fun bt354 => ((prog_Depth.f kj50 a1_0 a1_1 l1_2 l1_3).bind fun bt356 => ((prog_Depth.f kj50 t328 t329 t330 t333).bind fun bt358 => ((prog_Check.f kj50 t328 t329 t330 t333).bind fun bt360 => (if bt358.2 = 0 then (if bt360.2 = 0 then (some (decide (bt358.1 ≤ (wrap64 ((wrap64 (bt354.1 + bt356.1)) + 1))))) else (some false)) else (some false)))))) else (some true)) = some r := by rw [if_neg (show ¬ (false = true) by decide)] at H; exact H
                      clear H
                      have H := H1
                      clear H1
                      by_cases c87 : t336 = 0
                      · rw [if_pos c87] at H
                        have c87b0 : (t336 == 0) = true := beq_iff_eq.mpr c87
                        have c87b1 : (t336 != 0) = false := bne_eq_false_iff_eq.mpr c87
                        clear c87
                        replace H := Option.bind_eq_some_iff.mp H
                        obtain ⟨⟨t354, t355⟩, A880, H⟩ := H
                        replace H : ((prog_Depth.f kj50 a1_0 a1_1 l1_2 l1_3).bind fun bt356 => ((prog_Depth.f kj50 t328 t329 t330 t333).bind fun bt358 => ((prog_Check.f kj50 t328 t329 t330 t333).bind fun bt360 => (if bt358.2 = 0 then (if bt360.2 = 0 then (some (decide (bt358.1 ≤ (wrap64 ((wrap64 (t354 + bt356.1)) + 1))))) else (some false)) else (some false))))) = some r := H
                        have A88 := Aside0.mk A880
                        clear A880
                        replace H := Option.bind_eq_some_iff.mp H
                        obtain ⟨⟨t356, t357⟩, A890, H⟩ := H
                        replace H : ((prog_Depth.f kj50 t328 t329 t330 t333).bind fun bt358 => ((prog_Check.f kj50 t328 t329 t330 t333).bind fun bt360 => (if bt358.2 = 0 then (if bt360.2 = 0 then (some (decide (bt358.1 ≤ (wrap64 ((wrap64 (t354 + t356)) + 1))))) else (some false)) else (some false)))) = some r := H
                        have A89 := Aside0.mk A890
                        clear A890
                        replace H := Option.bind_eq_some_iff.mp H
                        obtain ⟨⟨t358, t359⟩, A900, H⟩ := H
                        replace H : ((prog_Check.f kj50 t328 t329 t330 t333).bind fun bt360 => (if t359 = 0 then (if bt360.2 = 0 then (some (decide (t358 ≤ (wrap64 ((wrap64 (t354 + t356)) + 1))))) else (some false)) else (some false))) = some r := H
                        have A90 := Aside0.mk A900
                        clear A900
                        replace H := Option.bind_eq_some_iff.mp H
                        obtain ⟨⟨t360, t361⟩, A910, H⟩ := H
                        replace H : (if t359 = 0 then (if t361 = 0 then (some (decide (t358 ≤ (wrap64 ((wrap64 (t354 + t356)) + 1))))) else (some false)) else (some false)) = some r := H
                        have A91 := Aside0.mk A910
                        clear A910
                        by_cases c92 : t359 = 0
                        · rw [if_pos c92] at H
                          have c92b0 : (t359 == 0) = true := beq_iff_eq.mpr c92
                          have c92b1 : (t359 != 0) = false := bne_eq_false_iff_eq.mpr c92
                          clear c92
                          by_cases c93 : t361 = 0
                          · rw [if_pos c93] at H
                            have c93b0 : (t361 == 0) = true := beq_iff_eq.mpr c93
                            have c93b1 : (t361 != 0) = false := bne_eq_false_iff_eq.mpr c93
                            clear c93
                            obtain rfl := Option.some.inj H
                            have hnb94 := NB323_324.out
                            have hnc94 := NB324_323.out
                            have hnb95 := NB323_337.out
                            have hnc95 := NB337_323.out
                            have hnb96 := NB323_351.out
                            have hnc96 := NB351_323.out
                            have hcz97_0 : wc.cell? ⟨gb323, 0, none⟩ = some (.int .i64 a0_0) := (blk_cell BK323.out 0).trans rfl
                            have hcz97_1 : wc.cell? ⟨gb323, 1, none⟩ = some (.int .i64 a0_1) := (blk_cell BK323.out 1).trans rfl
                            have hcz97_2 : wc.cell? ⟨gb323, 2, none⟩ = some (.slice A0_2 l0_2.length c0_2) := (blk_cell BK323.out 2).trans rfl
                            have hcz97_3 : wc.cell? ⟨gb323, 3, none⟩ = some (.slice A0_3 l0_3.length c0_3) := (blk_cell BK323.out 3).trans rfl
                            have hfz97_0 := blk_frozen BK323.out 0
                            have hfz97_1 := blk_frozen BK323.out 1
                            have hfz97_2 := blk_frozen BK323.out 2
                            have hfz97_3 := blk_frozen BK323.out 3
                            go_wp2_with (first | ((with_reducible refine gate_callee (f := 25) rfl ?_); refine goesL_ (some 75) rfl rfl Tryd.func25 (by kernel_rfl) rfl #[.agg #[.int .i64 a0_0, .int .i64 a0_1, .slice A0_2 l0_2.length c0_2, .slice A0_3 l0_3.length c0_3]] rfl (by (try simp only [List.map_toArray, List.map_cons, List.map_nil]); first | done | rfl | (simp only [List.length_drop, List.length_take]; rfl)) ?_; (with_reducible refine (prog_Depth.calls kj50 a0_0 a0_1 _ _ l0_2 _ _ l0_3 t354 t355 _ ?side1 ?side2 ?side3 ?side4 A88.out).mono ?_); (case side1 => repeat (first | exact (Kd.C_below HR0_2.out HB.out) | (with_reducible refine Kd.C_alloc ?_ _) | (with_reducible refine Kd.C_drewN ?_ _) | (with_reducible refine Kd.C_drew ?_))); (case side2 => exact HC0_2.out); (case side3 => repeat (first | exact (Kd.C_below HR0_3.out HB.out) | (with_reducible refine Kd.C_alloc ?_ _) | (with_reducible refine Kd.C_drewN ?_ _) | (with_reducible refine Kd.C_drew ?_))); (case side4 => exact HC0_3.out); rintro e w98 ⟨rfl, hb⟩; refine ⟨_, rfl, ?_⟩; have n0_ := Aside0.mk (Kd.R_below (by (with_reducible repeat (first | apply Kd.R_alloc | apply Kd.R_drewN | apply Kd.R_drew)); exact HO_338002.out) hb); have n1_ := Aside0.mk (Kd.R_below (by (with_reducible repeat (first | apply Kd.R_alloc | apply Kd.R_drewN | apply Kd.R_drew)); exact HO_338003.out) hb); have n2_ := Aside0.mk (Kd.R_below (by (with_reducible repeat (first | apply Kd.R_alloc | apply Kd.R_drewN | apply Kd.R_drew)); exact HO_352002.out) hb); have n3_ := Aside0.mk (Kd.R_below (by (with_reducible repeat (first | apply Kd.R_alloc | apply Kd.R_drewN | apply Kd.R_drew)); exact HO_352003.out) hb); have n4_ := Aside0.mk (blk_below (g := gb323) (o := .cells #[.int .i64 a0_0, .int .i64 a0_1, .slice A0_2 l0_2.length c0_2, .slice A0_3 l0_3.length c0_3] 25 (0, 0)) (by (with_reducible repeat (first | refine blk_drewN ?_ _ | refine blk_drew ?_ | refine blk_alloc ?_ _)); exact BK323.out) hb); have n5_ := Aside0.mk (blk_below (g := gb324) (o := .cells #[.int .i64 a1_0, .int .i64 a1_1, .slice A1_2 l1_2.length c1_2, .slice A1_3 l1_3.length c1_3] 25 (0, 0)) (by (with_reducible repeat (first | refine blk_drewN ?_ _ | refine blk_drew ?_ | refine blk_alloc ?_ _)); exact BK324.out) hb); have n6_ := Aside0.mk (blk_below (g := gb337) (o := .cells #[.int .i64 t328, .int .i64 t329, .slice Ao33 t330.length co33, .slice Ao34 t333.length co34] 25 (0, 0)) (by (with_reducible repeat (first | refine blk_drewN ?_ _ | refine blk_drew ?_ | refine blk_alloc ?_ _)); exact BK337.out) hb); have n7_ := Aside0.mk (blk_below (g := gb351) (o := .cells #[.int .i64 t342, .int .i64 t343, .slice Ao63 t344.length co63, .slice Ao64 t347.length co64] 25 (0, 0)) (by (with_reducible repeat (first | refine blk_drewN ?_ _ | refine blk_drew ?_ | refine blk_alloc ?_ _)); exact BK351.out) hb); have n8_ := Aside0.mk (below_step (by repeat (first | (with_reducible first | exact HB.out | apply below_alloc | apply pw_below_drewN | apply below_drew1 | refine below_set ?_ GE323.out | refine below_set ?_ GE324.out | refine below_set ?_ GE337.out | refine below_set ?_ GE351.out) | exact HB.out)) hb); clear HO_338002; clear HO_338003; clear HO_352002; clear HO_352003; clear BK323; clear BK324; clear BK337; clear BK351; clear HB; have HO_338002 := n0_; have HO_338003 := n1_; have HO_352002 := n2_; have HO_352003 := n3_; have BK323 := n4_; have BK324 := n5_; have BK337 := n6_; have BK351 := n7_; have HB := n8_; clear n0_ n1_ n2_ n3_ n4_ n5_ n6_ n7_ n8_; (try clear hb); (try clear hb2); (try clear hk); (try clear hi); have hnb99 := NB324_337.out; have hnc99 := NB337_324.out; have hnb100 := NB324_351.out; have hnc100 := NB351_324.out; have hcz101_0 : w98.cell? ⟨gb324, 0, none⟩ = some (.int .i64 a1_0) := (blk_cell BK324.out 0).trans rfl; have hcz101_1 : w98.cell? ⟨gb324, 1, none⟩ = some (.int .i64 a1_1) := (blk_cell BK324.out 1).trans rfl; have hcz101_2 : w98.cell? ⟨gb324, 2, none⟩ = some (.slice A1_2 l1_2.length c1_2) := (blk_cell BK324.out 2).trans rfl; have hcz101_3 : w98.cell? ⟨gb324, 3, none⟩ = some (.slice A1_3 l1_3.length c1_3) := (blk_cell BK324.out 3).trans rfl; have hfz101_0 := blk_frozen BK324.out 0; have hfz101_1 := blk_frozen BK324.out 1; have hfz101_2 := blk_frozen BK324.out 2; have hfz101_3 := blk_frozen BK324.out 3) | ((with_reducible refine gate_callee (f := 25) rfl ?_); refine goesL_ (some 80) rfl rfl Tryd.func25 (by kernel_rfl) rfl #[.agg #[.int .i64 a1_0, .int .i64 a1_1, .slice A1_2 l1_2.length c1_2, .slice A1_3 l1_3.length c1_3]] rfl (by (try simp only [List.map_toArray, List.map_cons, List.map_nil]); first | done | rfl | (simp only [List.length_drop, List.length_take]; rfl)) ?_; (with_reducible refine (prog_Depth.calls kj50 a1_0 a1_1 _ _ l1_2 _ _ l1_3 t356 t357 _ ?side1 ?side2 ?side3 ?side4 A89.out).mono ?_); (case side1 => repeat (first | exact (Kd.C_below HR1_2.out HB.out) | (with_reducible refine Kd.C_alloc ?_ _) | (with_reducible refine Kd.C_drewN ?_ _) | (with_reducible refine Kd.C_drew ?_))); (case side2 => exact HC1_2.out); (case side3 => repeat (first | exact (Kd.C_below HR1_3.out HB.out) | (with_reducible refine Kd.C_alloc ?_ _) | (with_reducible refine Kd.C_drewN ?_ _) | (with_reducible refine Kd.C_drew ?_))); (case side4 => exact HC1_3.out); rintro e w102 ⟨rfl, hb⟩; refine ⟨_, rfl, ?_⟩; have n0_ := Aside0.mk (Kd.R_below (by (with_reducible repeat (first | apply Kd.R_alloc | apply Kd.R_drewN | apply Kd.R_drew)); exact HO_338002.out) hb); have n1_ := Aside0.mk (Kd.R_below (by (with_reducible repeat (first | apply Kd.R_alloc | apply Kd.R_drewN | apply Kd.R_drew)); exact HO_338003.out) hb); have n2_ := Aside0.mk (Kd.R_below (by (with_reducible repeat (first | apply Kd.R_alloc | apply Kd.R_drewN | apply Kd.R_drew)); exact HO_352002.out) hb); have n3_ := Aside0.mk (Kd.R_below (by (with_reducible repeat (first | apply Kd.R_alloc | apply Kd.R_drewN | apply Kd.R_drew)); exact HO_352003.out) hb); have n4_ := Aside0.mk (blk_below (g := gb323) (o := .cells #[.int .i64 a0_0, .int .i64 a0_1, .slice A0_2 l0_2.length c0_2, .slice A0_3 l0_3.length c0_3] 25 (0, 0)) (by (with_reducible repeat (first | refine blk_drewN ?_ _ | refine blk_drew ?_ | refine blk_alloc ?_ _)); exact BK323.out) hb); have n5_ := Aside0.mk (blk_below (g := gb324) (o := .cells #[.int .i64 a1_0, .int .i64 a1_1, .slice A1_2 l1_2.length c1_2, .slice A1_3 l1_3.length c1_3] 25 (0, 0)) (by (with_reducible repeat (first | refine blk_drewN ?_ _ | refine blk_drew ?_ | refine blk_alloc ?_ _)); exact BK324.out) hb); have n6_ := Aside0.mk (blk_below (g := gb337) (o := .cells #[.int .i64 t328, .int .i64 t329, .slice Ao33 t330.length co33, .slice Ao34 t333.length co34] 25 (0, 0)) (by (with_reducible repeat (first | refine blk_drewN ?_ _ | refine blk_drew ?_ | refine blk_alloc ?_ _)); exact BK337.out) hb); have n7_ := Aside0.mk (blk_below (g := gb351) (o := .cells #[.int .i64 t342, .int .i64 t343, .slice Ao63 t344.length co63, .slice Ao64 t347.length co64] 25 (0, 0)) (by (with_reducible repeat (first | refine blk_drewN ?_ _ | refine blk_drew ?_ | refine blk_alloc ?_ _)); exact BK351.out) hb); have n8_ := Aside0.mk (below_step (by repeat (first | (with_reducible first | exact HB.out | apply below_alloc | apply pw_below_drewN | apply below_drew1 | refine below_set ?_ GE323.out | refine below_set ?_ GE324.out | refine below_set ?_ GE337.out | refine below_set ?_ GE351.out) | exact HB.out)) hb); clear HO_338002; clear HO_338003; clear HO_352002; clear HO_352003; clear BK323; clear BK324; clear BK337; clear BK351; clear HB; have HO_338002 := n0_; have HO_338003 := n1_; have HO_352002 := n2_; have HO_352003 := n3_; have BK323 := n4_; have BK324 := n5_; have BK337 := n6_; have BK351 := n7_; have HB := n8_; clear n0_ n1_ n2_ n3_ n4_ n5_ n6_ n7_ n8_; (try clear hb); (try clear hb2); (try clear hk); (try clear hi); have hnb103 := NB337_351.out; have hnc103 := NB351_337.out; have hcz104_0 : w102.cell? ⟨gb337, 0, none⟩ = some (.int .i64 t328) := (blk_cell BK337.out 0).trans rfl; have hcz104_1 : w102.cell? ⟨gb337, 1, none⟩ = some (.int .i64 t329) := (blk_cell BK337.out 1).trans rfl; have hcz104_2 : w102.cell? ⟨gb337, 2, none⟩ = some (.slice Ao33 t330.length co33) := (blk_cell BK337.out 2).trans rfl; have hcz104_3 : w102.cell? ⟨gb337, 3, none⟩ = some (.slice Ao34 t333.length co34) := (blk_cell BK337.out 3).trans rfl; have hfz104_0 := blk_frozen BK337.out 0; have hfz104_1 := blk_frozen BK337.out 1; have hfz104_2 := blk_frozen BK337.out 2; have hfz104_3 := blk_frozen BK337.out 3) | ((with_reducible refine gate_callee (f := 25) rfl ?_); refine goesL_ (some 85) rfl rfl Tryd.func25 (by kernel_rfl) rfl #[.agg #[.int .i64 t328, .int .i64 t329, .slice Ao33 t330.length co33, .slice Ao34 t333.length co34]] rfl (by (try simp only [List.map_toArray, List.map_cons, List.map_nil]); first | done | rfl | (simp only [List.length_drop, List.length_take]; rfl)) ?_; (with_reducible refine (prog_Depth.calls kj50 t328 t329 _ _ t330 _ _ t333 t358 t359 _ ?side1 ?side2 ?side3 ?side4 A90.out).mono ?_); (case side1 => repeat (first | exact (Kd.R_reads' HO_338002.out).2.2 | (with_reducible refine Kd.C_alloc ?_ _) | (with_reducible refine Kd.C_drewN ?_ _) | (with_reducible refine Kd.C_drew ?_))); (case side2 => exact (Kd.R_reads' HO_338002.out).2.1); (case side3 => repeat (first | exact (Kd.R_reads' HO_338003.out).2.2 | (with_reducible refine Kd.C_alloc ?_ _) | (with_reducible refine Kd.C_drewN ?_ _) | (with_reducible refine Kd.C_drew ?_))); (case side4 => exact (Kd.R_reads' HO_338003.out).2.1); rintro e w105 ⟨rfl, hb⟩; refine ⟨_, rfl, ?_⟩; have n0_ := Aside0.mk (Kd.R_below (by (with_reducible repeat (first | apply Kd.R_alloc | apply Kd.R_drewN | apply Kd.R_drew)); exact HO_338002.out) hb); have n1_ := Aside0.mk (Kd.R_below (by (with_reducible repeat (first | apply Kd.R_alloc | apply Kd.R_drewN | apply Kd.R_drew)); exact HO_338003.out) hb); have n2_ := Aside0.mk (Kd.R_below (by (with_reducible repeat (first | apply Kd.R_alloc | apply Kd.R_drewN | apply Kd.R_drew)); exact HO_352002.out) hb); have n3_ := Aside0.mk (Kd.R_below (by (with_reducible repeat (first | apply Kd.R_alloc | apply Kd.R_drewN | apply Kd.R_drew)); exact HO_352003.out) hb); have n4_ := Aside0.mk (blk_below (g := gb323) (o := .cells #[.int .i64 a0_0, .int .i64 a0_1, .slice A0_2 l0_2.length c0_2, .slice A0_3 l0_3.length c0_3] 25 (0, 0)) (by (with_reducible repeat (first | refine blk_drewN ?_ _ | refine blk_drew ?_ | refine blk_alloc ?_ _)); exact BK323.out) hb); have n5_ := Aside0.mk (blk_below (g := gb324) (o := .cells #[.int .i64 a1_0, .int .i64 a1_1, .slice A1_2 l1_2.length c1_2, .slice A1_3 l1_3.length c1_3] 25 (0, 0)) (by (with_reducible repeat (first | refine blk_drewN ?_ _ | refine blk_drew ?_ | refine blk_alloc ?_ _)); exact BK324.out) hb); have n6_ := Aside0.mk (blk_below (g := gb337) (o := .cells #[.int .i64 t328, .int .i64 t329, .slice Ao33 t330.length co33, .slice Ao34 t333.length co34] 25 (0, 0)) (by (with_reducible repeat (first | refine blk_drewN ?_ _ | refine blk_drew ?_ | refine blk_alloc ?_ _)); exact BK337.out) hb); have n7_ := Aside0.mk (blk_below (g := gb351) (o := .cells #[.int .i64 t342, .int .i64 t343, .slice Ao63 t344.length co63, .slice Ao64 t347.length co64] 25 (0, 0)) (by (with_reducible repeat (first | refine blk_drewN ?_ _ | refine blk_drew ?_ | refine blk_alloc ?_ _)); exact BK351.out) hb); have n8_ := Aside0.mk (below_step (by repeat (first | (with_reducible first | exact HB.out | apply below_alloc | apply pw_below_drewN | apply below_drew1 | refine below_set ?_ GE323.out | refine below_set ?_ GE324.out | refine below_set ?_ GE337.out | refine below_set ?_ GE351.out) | exact HB.out)) hb); clear HO_338002; clear HO_338003; clear HO_352002; clear HO_352003; clear BK323; clear BK324; clear BK337; clear BK351; clear HB; have HO_338002 := n0_; have HO_338003 := n1_; have HO_352002 := n2_; have HO_352003 := n3_; have BK323 := n4_; have BK324 := n5_; have BK337 := n6_; have BK351 := n7_; have HB := n8_; clear n0_ n1_ n2_ n3_ n4_ n5_ n6_ n7_ n8_; (try clear hb); (try clear hb2); (try clear hk); (try clear hi); have hcz106_0 : w105.cell? ⟨gb337, 0, none⟩ = some (.int .i64 t328) := (blk_cell BK337.out 0).trans rfl; have hcz106_1 : w105.cell? ⟨gb337, 1, none⟩ = some (.int .i64 t329) := (blk_cell BK337.out 1).trans rfl; have hcz106_2 : w105.cell? ⟨gb337, 2, none⟩ = some (.slice Ao33 t330.length co33) := (blk_cell BK337.out 2).trans rfl; have hcz106_3 : w105.cell? ⟨gb337, 3, none⟩ = some (.slice Ao34 t333.length co34) := (blk_cell BK337.out 3).trans rfl; have hfz106_0 := blk_frozen BK337.out 0; have hfz106_1 := blk_frozen BK337.out 1; have hfz106_2 := blk_frozen BK337.out 2; have hfz106_3 := blk_frozen BK337.out 3) | ((with_reducible refine gate_callee (f := 11) rfl ?_); refine goesL_ (some 90) rfl rfl Tryd.func11 (by kernel_rfl) rfl #[.agg #[.int .i64 t328, .int .i64 t329, .slice Ao33 t330.length co33, .slice Ao34 t333.length co34]] rfl (by (try simp only [List.map_toArray, List.map_cons, List.map_nil]); first | done | rfl | (simp only [List.length_drop, List.length_take]; rfl)) ?_; (with_reducible refine (prog_Check.calls kj50 t328 t329 _ _ t330 _ _ t333 t360 t361 _ ?side1 ?side2 ?side3 ?side4 A91.out).mono ?_); (case side1 => repeat (first | exact (Kd.R_reads' HO_338002.out).2.2 | (with_reducible refine Kd.C_alloc ?_ _) | (with_reducible refine Kd.C_drewN ?_ _) | (with_reducible refine Kd.C_drew ?_))); (case side2 => exact (Kd.R_reads' HO_338002.out).2.1); (case side3 => repeat (first | exact (Kd.R_reads' HO_338003.out).2.2 | (with_reducible refine Kd.C_alloc ?_ _) | (with_reducible refine Kd.C_drewN ?_ _) | (with_reducible refine Kd.C_drew ?_))); (case side4 => exact (Kd.R_reads' HO_338003.out).2.1); rintro e w107 ⟨rfl, hb⟩; refine ⟨_, rfl, ?_⟩; have n0_ := Aside0.mk (Kd.R_below (by (with_reducible repeat (first | apply Kd.R_alloc | apply Kd.R_drewN | apply Kd.R_drew)); exact HO_338002.out) hb); have n1_ := Aside0.mk (Kd.R_below (by (with_reducible repeat (first | apply Kd.R_alloc | apply Kd.R_drewN | apply Kd.R_drew)); exact HO_338003.out) hb); have n2_ := Aside0.mk (Kd.R_below (by (with_reducible repeat (first | apply Kd.R_alloc | apply Kd.R_drewN | apply Kd.R_drew)); exact HO_352002.out) hb); have n3_ := Aside0.mk (Kd.R_below (by (with_reducible repeat (first | apply Kd.R_alloc | apply Kd.R_drewN | apply Kd.R_drew)); exact HO_352003.out) hb); have n4_ := Aside0.mk (blk_below (g := gb323) (o := .cells #[.int .i64 a0_0, .int .i64 a0_1, .slice A0_2 l0_2.length c0_2, .slice A0_3 l0_3.length c0_3] 25 (0, 0)) (by (with_reducible repeat (first | refine blk_drewN ?_ _ | refine blk_drew ?_ | refine blk_alloc ?_ _)); exact BK323.out) hb); have n5_ := Aside0.mk (blk_below (g := gb324) (o := .cells #[.int .i64 a1_0, .int .i64 a1_1, .slice A1_2 l1_2.length c1_2, .slice A1_3 l1_3.length c1_3] 25 (0, 0)) (by (with_reducible repeat (first | refine blk_drewN ?_ _ | refine blk_drew ?_ | refine blk_alloc ?_ _)); exact BK324.out) hb); have n6_ := Aside0.mk (blk_below (g := gb337) (o := .cells #[.int .i64 t328, .int .i64 t329, .slice Ao33 t330.length co33, .slice Ao34 t333.length co34] 25 (0, 0)) (by (with_reducible repeat (first | refine blk_drewN ?_ _ | refine blk_drew ?_ | refine blk_alloc ?_ _)); exact BK337.out) hb); have n7_ := Aside0.mk (blk_below (g := gb351) (o := .cells #[.int .i64 t342, .int .i64 t343, .slice Ao63 t344.length co63, .slice Ao64 t347.length co64] 25 (0, 0)) (by (with_reducible repeat (first | refine blk_drewN ?_ _ | refine blk_drew ?_ | refine blk_alloc ?_ _)); exact BK351.out) hb); have n8_ := Aside0.mk (below_step (by repeat (first | (with_reducible first | exact HB.out | apply below_alloc | apply pw_below_drewN | apply below_drew1 | refine below_set ?_ GE323.out | refine below_set ?_ GE324.out | refine below_set ?_ GE337.out | refine below_set ?_ GE351.out) | exact HB.out)) hb); clear HO_338002; clear HO_338003; clear HO_352002; clear HO_352003; clear BK323; clear BK324; clear BK337; clear BK351; clear HB; have HO_338002 := n0_; have HO_338003 := n1_; have HO_352002 := n2_; have HO_352003 := n3_; have BK323 := n4_; have BK324 := n5_; have BK337 := n6_; have BK351 := n7_; have HB := n8_; clear n0_ n1_ n2_ n3_ n4_ n5_ n6_ n7_ n8_; (try clear hb); (try clear hb2); (try clear hk); (try clear hi)))
                            go_ret
                            exact ⟨by first | rfl | (simp [errW_none, errW_some] <;> rfl) | (simp [*, errW_none, errW_some] <;> rfl), by repeat (first | (with_reducible first | exact HB.out | apply below_alloc | apply pw_below_drewN | apply below_drew1 | refine below_set ?_ GE323.out | refine below_set ?_ GE324.out | refine below_set ?_ GE337.out | refine below_set ?_ GE351.out) | exact HB.out)⟩
                          · rw [if_neg c93] at H
                            have c93b0 : (t361 == 0) = false := beq_eq_false_iff_ne.mpr c93
                            have c93b1 : (t361 != 0) = true := bne_iff_ne.mpr c93
                            obtain rfl := Option.some.inj H
                            exact absurd hT.out (by simp)
                        · rw [if_neg c92] at H
                          have c92b0 : (t359 == 0) = false := beq_eq_false_iff_ne.mpr c92
                          have c92b1 : (t359 != 0) = true := bne_iff_ne.mpr c92
                          obtain rfl := Option.some.inj H
                          exact absurd hT.out (by simp)
                      · rw [if_neg c87] at H
                        have c87b0 : (t336 == 0) = false := beq_eq_false_iff_ne.mpr c87
                        have c87b1 : (t336 != 0) = true := bne_iff_ne.mpr c87
                        obtain rfl := Option.some.inj H
                        go_wp2
                        go_ret
                        exact ⟨by first | rfl | (simp [errW_none, errW_some] <;> rfl) | (simp [*, errW_none, errW_some] <;> rfl), by repeat (first | (with_reducible first | exact HB.out | apply below_alloc | apply pw_below_drewN | apply below_drew1 | refine below_set ?_ GE323.out | refine below_set ?_ GE324.out | refine below_set ?_ GE337.out | refine below_set ?_ GE351.out) | exact HB.out)⟩
  · replace c4 := Bool.eq_false_iff.mpr c4
    subst c4
    have H1 : (some false) = some r := by rw [if_neg (show ¬ (false = true) by decide)] at H; exact H
    clear H
    have H := H1
    clear H1
    obtain rfl := Option.some.inj H
    exact absurd hT.out (by simp)

end Go.Proofs.YtkknkdmdglncoaaDoor.XA
end

section
/- Arguments opened by their kinds: what is read as data at a type is a Lean value of that type's kind. Of every seat alike; its own words alone. -/
namespace Go.Proofs.YtkknkdmdglncoaaDoor.Opn
open Go.ChangeShapes Go.WideShapes Go.Proofs.YtkknkdmdglncoaaDoorW.PrintWords
set_option linter.unusedVariables false

/-- Whatever is read at type t is of kind d, and wf. -/
structure Opn {α : Type} (P : Program) (t : TypeId) (d : Kd α) (wf : α → Prop) : Prop where
  get : ∀ {H : Type} {enc : TypeId × Value → H} {w : World} {base : Nat} {spare : Nat → Bool} {held : Bool} {fuel : Nat} {cs : List Value} {x : DataW H × List MemPlace},
    DataW.trod enc P w base spare held fuel t cs = some x → (∀ n ∈ DataW.weights P t x.1, n ≤ reachBytes) → ∃ a : α, d.K w a cs ∧ wf a

section
variable {P : Program} {t : TypeId}
theorem opn_int {k : IntKind} (ht : P.underlying t = some (.int k)) : Opn P t (Kd.int k) (fun n => (Lit.int k n).wf = true) :=
  ⟨fun h _ => by
    obtain ⟨n, rfl, rfl, hw⟩ := DataW.trod_int ht h
    exact ⟨n, rfl, hw⟩⟩
theorem choose_list {α : Type} {Q : Nat → α → Prop} : ∀ n : Nat, (∀ i, i < n → ∃ x, Q i x) → ∃ xs : List α, xs.length = n ∧ ∀ i x, xs[i]? = some x → Q i x := by
  intro n h
  induction n with
  | zero => exact ⟨[], rfl, fun i x hx => by simp at hx⟩
  | succ n ih =>
    obtain ⟨xs, hl, hq⟩ := ih (fun i hi => h i (by omega))
    obtain ⟨y, hy⟩ := h n (by omega)
    refine ⟨xs ++ [y], by simp [hl], fun i x hx => ?_⟩
    by_cases hi : i < n
    · rw [List.getElem?_append_left (by omega)] at hx
      exact hq i x hx
    · rw [List.getElem?_append_right (by omega)] at hx
      have : i = n := by
        have := (List.getElem?_eq_some_iff.1 hx).1
        simp at this
        omega
      subst this
      rw [hl, Nat.sub_self] at hx
      simp at hx
      subst hx
      exact hy

theorem opn_slice {α : Type} {e : TypeId} {d : Kd α} {wf : α → Prop} {B : Nat} (ht : P.underlying t = some (.slice e)) (hC : P.cellsOf e = d.sz) (hB : P.bytesOf e = B) (ho : Opn P e d wf) :
    Opn P t (Kd.slice e d) (fun xs => xs.length * B ≤ 140737488351232 ∧ xs.length ≤ 9223372036854775807 ∧ ∀ x ∈ xs, wf x) :=
  ⟨fun {H enc w base spare held fuel cs x} h hz => by
    rcases DataW.trod_slice ht h with ⟨rfl, rfl⟩ | ⟨a, len, cap, elems, rest, n, rfl, rfl, rfl, hb, hl, hm, hlen, hel, _, _⟩
    · refine ⟨[], ⟨none, 0, rfl, by simp, Kd.C_nil d w⟩, by simp⟩
    · have hw : ∀ n ∈ DataW.weightsAll P e (elems.map (·.1)), n ≤ reachBytes := fun n hn => hz n (by simp only [DataW.weights, ht]; exact List.mem_cons_of_mem _ (List.mem_append_left _ hn))
      have hwi : ∀ (i : Nat) (y : DataW H × List MemPlace), elems[i]? = some y → ∀ n ∈ DataW.weights P e y.1, n ≤ reachBytes := by
        have : ∀ (l : List (DataW H)) (d : DataW H), d ∈ l → ∀ n ∈ DataW.weights P e d, n ∈ DataW.weightsAll P e l := by
          intro l
          induction l with
          | nil => intro d hd; simp at hd
          | cons z l ih =>
            intro d hd n hn
            simp only [DataW.weightsAll, List.mem_append]
            rcases List.mem_cons.1 hd with rfl | hd
            · exact Or.inl hn
            · exact Or.inr (ih d hd n hn)
        intro i y hy n hn
        exact hw n (this _ y.1 (List.mem_map.2 ⟨y, List.mem_of_getElem? hy, rfl⟩) n hn)
      have hx : ∀ i, i < len → ∃ x : α, (∃ c, c.length = d.sz ∧ d.K w x c ∧ ∀ j u, c[j]? = some u → w.cell? (a.add (i * d.sz + j)) = some u) ∧ wf x := by
        intro i hi
        have h1 := hel i hi
        rw [List.getElem?_eq_getElem (by omega)] at h1
        obtain ⟨c, hc, hd⟩ := Option.bind_eq_some_iff.1 h1
        obtain ⟨x, hK, hwf⟩ := ho.get hd (hwi i _ (List.getElem?_eq_getElem (by omega)))
        obtain ⟨_, hcl, hcell⟩ := World.cells?_some hc
        refine ⟨x, ⟨c, by rw [hcl, hC], hK, fun j u hj => ?_⟩, hwf⟩
        have hj' : j < P.cellsOf e := by rw [← hcl]; exact (List.getElem?_eq_some_iff.1 hj).1
        rw [← hC, ← add_add, hcell j hj', hj]
      obtain ⟨xs, hxl, hq⟩ := choose_list len hx
      refine ⟨xs, ⟨some a, cap, by rw [hxl], by omega, ?_⟩, ?_, by unfold maxLen at hm; omega, fun x hx => ?_⟩
      · refine ⟨rfl, by unfold maxLen at hm; omega, fun _ => ⟨a, rfl, fun j p hj => ?_⟩⟩
        exact (hq j p hj).1
      · have := hz ((elems.map (·.1)).length + (rest.map (·.1)).length |> (· * P.bytesOf e)) (by simp only [DataW.weights, ht]; exact List.mem_cons_self)
        simp only [List.length_map, hB] at this
        rw [hxl, ← hlen]
        exact Nat.le_trans (Nat.mul_le_mul_right _ (Nat.le_add_right _ _)) this
      · obtain ⟨i, hi⟩ := List.mem_iff_getElem?.1 hx
        exact (hq i x hi).2⟩

/-- The fields of a struct, from offset off on. -/
structure OpnFs {α : Type} (P : Program) (fs : List Field) (off : Nat) (d : Kd α) (wf : α → Prop) : Prop where
  get : ∀ {H : Type} {enc : TypeId × Value → H} {w : World} {base : Nat} {spare : Nat → Bool} {held : Bool} {fuel : Nat} {cs : List Value} {xs : List (DataW H × List MemPlace)},
    cs.length = off + d.sz → xs.length = fs.length →
    (∀ (i : Nat) (f : Field), fs[i]? = some f → DataW.trod enc P w base spare held fuel f.type ((cs.drop f.offset).take (P.cellsOf f.type)) = xs[i]?) →
    (∀ n ∈ DataW.weightsEach P (fs.map (·.type)) (xs.map (·.1)), n ≤ reachBytes) → ∃ a : α, d.K w a (cs.drop off) ∧ wf a

theorem fs_one {α : Type} {f : Field} {off : Nat} {d : Kd α} {wf : α → Prop} (hoff : f.offset = off) (hC : P.cellsOf f.type = d.sz) (ho : Opn P f.type d wf) : OpnFs P [f] off d wf :=
  ⟨fun {H enc w base spare held fuel cs xs} hl hx hf hz => by
    match xs, hx with
    | [y], _ =>
      have h := hf 0 f rfl
      rw [hoff, hC, List.take_of_length_le (by simp; omega)] at h
      exact ho.get h (fun n hn => hz n (by simp only [List.map_cons, List.map_nil, DataW.weightsEach]; exact List.mem_append_left _ hn))⟩
theorem fs_cons {α β : Type} {f : Field} {fs : List Field} {off : Nat} {d : Kd α} {d' : Kd β} {wf : α → Prop} {wf' : β → Prop} (hoff : f.offset = off) (hC : P.cellsOf f.type = d.sz) (ho : Opn P f.type d wf) (hs : OpnFs P fs (off + d.sz) d' wf') :
    OpnFs P (f :: fs) off (Kd.pair d d') (fun x => wf x.1 ∧ wf' x.2) :=
  ⟨fun {H enc w base spare held fuel cs xs} hl hx hf hz => by
    match xs, hx with
    | y :: ys, hx =>
      have hl' : cs.length = off + (d.sz + d'.sz) := hl
      have h := hf 0 f rfl
      rw [hoff, hC] at h
      obtain ⟨a, hK, hwf⟩ := ho.get h (fun n hn => hz n (by simp only [List.map_cons, DataW.weightsEach]; exact List.mem_append_left _ hn))
      obtain ⟨b, hK', hwf'⟩ := hs.get (cs := cs) (xs := ys) (by omega) (by simpa using hx) (fun i g hg => by simpa using hf (i + 1) g (by simpa using hg))
        (fun n hn => hz n (by simp only [List.map_cons, DataW.weightsEach]; exact List.mem_append_right _ hn))
      refine ⟨(a, b), ⟨_, _, ?_, hK, hK'⟩, hwf, hwf'⟩
      rw [← List.drop_drop, List.take_append_drop]⟩
theorem opn_struct {α : Type} {fs : Array Field} {d : Kd α} {wf : α → Prop} (ht : P.underlying t = some (.struct fs)) (hC : P.cellsOf t = d.sz) (hs : OpnFs P fs.toList 0 d wf) : Opn P t d wf :=
  ⟨fun {H enc w base spare held fuel cs x} h hz => by
    obtain ⟨xs, n, rfl, rfl, hl, hxl, hf⟩ := DataW.trod_struct ht h
    have := hs.get (cs := cs) (xs := xs) (by rw [hl, hC]; simp) (by simpa using hxl) (fun i f hi => hf i f (by simpa using hi)) (fun n hn => hz n (by simp only [DataW.weights, ht]; exact hn))
    simpa using this⟩
/-- A Lean structure in the place of its fields' pairs. -/
theorem opn_iso {α β : Type} {d : Kd α} {wf : α → Prop} (f : β → α) (g : α → β) (hfg : ∀ a, f (g a) = a) (h : Opn P t d wf) : Opn P t (Kd.iso d f) (fun b => wf (f b)) :=
  ⟨fun ht hz => by
    obtain ⟨a, hK, hwf⟩ := h.get ht hz
    exact ⟨g a, by show d.K _ (f (g a)) _; rw [hfg]; exact hK, by rw [hfg]; exact hwf⟩⟩
end

section
variable {H : Type} {enc : TypeId × Value → H} {P : Program} {w : World} {base : Nat} {spare : Nat → Bool} {held : Bool} {t : TypeId}
theorem opened {α : Type} {d : Kd α} {wf : α → Prop} (ho : Opn P t d wf) {v : Value} {dd : DataW H} {ps : List MemPlace} {ts : List TypeId} {ds : List (DataW H)} {j : Nat}
    (hsz : (DataW.weightsEach P ts ds).all (· ≤ reachBytes) = true) (ht : ts[j]? = some t) (hd : ds[j]? = some dd) (h : DataW.Trod enc P w base spare held t v dd ps) : ∃ a : α, d.K w a v.cells.toList ∧ wf a := by
  obtain ⟨fuel, hf⟩ := h
  exact ho.get hf (fun n hn => by simpa using List.all_eq_true.1 hsz n (DataW.weights_mem_each ht hd n hn))
theorem trod_lt {v : Value} {d : DataW H} {ps : List MemPlace} (h : DataW.Trod enc P w base spare held t v d ps) : ∀ x ∈ ps, x.block < w.heap.size := by
  obtain ⟨m, hm⟩ := h
  exact DataW.trod_lt m _ _ _ hm
end
end Go.Proofs.YtkknkdmdglncoaaDoor.Opn
end

section
namespace Go.Proofs.YtkknkdmdglncoaaDoor.SaidProgJoins
open Go.RowKit Go.Proofs.YtkknkdmdglncoaaDoorW.PrintWords Go.Proofs.YtkknkdmdglncoaaDoorW.PrintLast Go.Proofs.YtkknkdmdglncoaaDoor.Opn Go.Proofs.YtkknkdmdglncoaaDoor.XA
set_option linter.unusedVariables false
/-- What is known of whatever is read at this type. -/
def wfS37 (x : S37) : Prop := (Lit.int .i64 x.f0).wf = true ∧ (Lit.int .i64 x.f1).wf = true ∧ (Lit.int .i64 x.f2).wf = true ∧ (Lit.int .i64 x.f3).wf = true ∧ (Lit.int .i64 x.f4).wf = true
theorem opnS37 : Opn Tryd.prog 37 k37 wfS37 := opn_iso (fun x : S37 => (x.f0, x.f1, x.f2, x.f3, x.f4)) (fun p => ⟨p.1, p.2.1, p.2.2.1, p.2.2.2.1, p.2.2.2.2⟩) (fun _ => rfl) (opn_struct Tryd.underlying37 (by kernel_rfl) (fs_cons rfl (by kernel_rfl) (opn_int Tryd.underlying3) (fs_cons rfl (by kernel_rfl) (opn_int Tryd.underlying3) (fs_cons rfl (by kernel_rfl) (opn_int Tryd.underlying3) (fs_cons rfl (by kernel_rfl) (opn_int Tryd.underlying3) (fs_one rfl (by kernel_rfl) (opn_int Tryd.underlying3)))))))
/-- What is known of whatever is read at this type. -/
def wfS25 (x : S25) : Prop := (Lit.int .i64 x.f0).wf = true ∧ (Lit.int .i64 x.f1).wf = true ∧ (x.f2.length * 40 ≤ 140737488351232 ∧ x.f2.length ≤ 9223372036854775807 ∧ ∀ y ∈ x.f2, wfS37 y) ∧ (x.f3.length * 8 ≤ 140737488351232 ∧ x.f3.length ≤ 9223372036854775807 ∧ ∀ y ∈ x.f3, (Lit.int .i64 y).wf = true)
theorem opnS25 : Opn Tryd.prog 25 k25 wfS25 := opn_iso (fun x : S25 => (x.f0, x.f1, x.f2, x.f3)) (fun p => ⟨p.1, p.2.1, p.2.2.1, p.2.2.2⟩) (fun _ => rfl) (opn_struct Tryd.underlying25 (by kernel_rfl) (fs_cons rfl (by kernel_rfl) (opn_int Tryd.underlying3) (fs_cons rfl (by kernel_rfl) (opn_int Tryd.underlying3) (fs_cons rfl (by kernel_rfl) (opn_slice (B := 40) Tryd.underlying22 (by kernel_rfl) (by kernel_rfl) (opnS37)) (fs_one rfl (by kernel_rfl) (opn_slice (B := 8) Tryd.underlying23 (by kernel_rfl) (by kernel_rfl) (opn_int Tryd.underlying3)))))))
/-- THE PURE STATEMENT. -/
def Pure : Prop := ∀ (x0 : S25) (x1 : S25), wfS25 x0 → wfS25 x1 → ∃ k, swagelaw08_ProgJoins.f k x0.f0 x0.f1 x0.f2 x0.f3 x1.f0 x1.f1 x1.f2 x1.f3 = some true
end Go.Proofs.YtkknkdmdglncoaaDoor.SaidProgJoins
end

section
namespace Go.Proofs.YtkknkdmdglncoaaDoor.XA
open Go.RowKit Go.Proofs.YtkknkdmdglncoaaDoorW.PrintWords Go.Proofs.YtkknkdmdglncoaaDoorW.PrintLast Go.Proofs.YtkknkdmdglncoaaDoorW.PrintMore
attribute [local go_sem] max2_int min2_int max_two min_two max_three min_three max_four min_four   -- for this text's walks alone
set_option linter.unusedVariables false
set_option linter.unusedSimpArgs false

/-! ### swagelaw08_ProgChecks: function 3 -/
def swagelaw08_ProgChecks.j0 : Nat → Bool → Int → Int → List (S37) → List Int → Option (Bool)
  | 0, _, _, _, _, _ => none
  | k + 1, x18, x152000, x152001, x152002, x152003 => if x18 = true then (some true) else ((prog_Check.f k x152000 x152001 x152002 x152003).bind fun bt153 => ((swageref08_Check.f k x152000 x152001 x152002 x152003).bind fun bt155 => (if bt155.2 = true then (if bt153.1 = bt155.1 then (if bt153.2 = 80 then ((swagelaw08_live.f k).bind fun t157 => (some t157)) else (some false)) else (some false)) else (if bt153.1 = 0 then (some (bt153.2 == 0)) else (some false)))))
def swagelaw08_ProgChecks.f (k : Nat) (a0_0 : Int) (a0_1 : Int) (l0_2 : List (S37)) (l0_3 : List Int) : Option (Bool) := (swagelaw08_live.f k).bind fun t152 => (if t152 = true then (if (l0_2.length : Int) > 20000 then (swagelaw08_ProgChecks.j0 k true a0_0 a0_1 l0_2 l0_3) else (swagelaw08_ProgChecks.j0 k (decide (20000 < l0_3.length)) a0_0 a0_1 l0_2 l0_3)) else (some false))
theorem swagelaw08_ProgChecks.mono_l : ∀ k, (∀ y0 y1 y2 y3 y4, LeO (swagelaw08_ProgChecks.j0 k y0 y1 y2 y3 y4) (swagelaw08_ProgChecks.j0 (k + 1) y0 y1 y2 y3 y4))
  | 0 => fun _ _ _ _ _ r h => by simp [swagelaw08_ProgChecks.j0] at h
  | k + 1 => by
    have ih0 := swagelaw08_ProgChecks.mono_l k
    · intro y0 y1 y2 y3 y4
      unfold swagelaw08_ProgChecks.j0
      repeat' first
      | (with_reducible exact ih0 _ _ _ _ _)
      | (with_reducible exact prog_Check.mono _ _ _ _ _)
      | (with_reducible exact swagelaw08_live.mono _)
      | (with_reducible exact swageref08_Check.mono _ _ _ _ _)
      | (with_reducible exact LeO.refl _)
      | (with_reducible exact LeO.none _)
      | (with_reducible refine LeO.ite ?_ ?_)
      | (with_reducible refine LeO.bind ?_ (fun _ => ?_))
      | exact ih0 _ _ _ _ _
      | exact prog_Check.mono _ _ _ _ _
      | exact swagelaw08_live.mono _
      | exact swageref08_Check.mono _ _ _ _ _
      | exact LeO.none _
      | refine LeO.ite ?_ ?_
      | refine LeO.bind ?_ (fun _ => ?_)
theorem swagelaw08_ProgChecks.mono : ∀ a0 a1 a2 a3 k, LeO (swagelaw08_ProgChecks.f k a0 a1 a2 a3) (swagelaw08_ProgChecks.f (k + 1) a0 a1 a2 a3) := by
  intro a0 a1 a2 a3 k
  have ih0 := swagelaw08_ProgChecks.mono_l k
  unfold swagelaw08_ProgChecks.f
  repeat' first
      | (with_reducible exact ih0 _ _ _ _ _)
      | (with_reducible exact prog_Check.mono _ _ _ _ _)
      | (with_reducible exact swagelaw08_live.mono _)
      | (with_reducible exact swageref08_Check.mono _ _ _ _ _)
      | (with_reducible exact LeO.refl _)
      | (with_reducible exact LeO.none _)
      | (with_reducible refine LeO.ite ?_ ?_)
      | (with_reducible refine LeO.bind ?_ (fun _ => ?_))
      | exact ih0 _ _ _ _ _
      | exact prog_Check.mono _ _ _ _ _
      | exact swagelaw08_live.mono _
      | exact swageref08_Check.mono _ _ _ _ _
      | exact LeO.none _
      | refine LeO.ite ?_ ?_
      | refine LeO.bind ?_ (fun _ => ?_)
set_option maxHeartbeats 8000000 in
set_option maxRecDepth 100000 in
theorem swagelaw08_ProgChecks.calls (k : Nat) (a0_0 : Int) (a0_1 : Int) (A0_2 : Option Addr) (c0_2 : Nat) (l0_2 : List (S37)) (A0_3 : Option Addr) (c0_3 : Nat) (l0_3 : List Int) (r : Bool) (w : World) (hr0_2 : Kd.C k37 w A0_2 l0_2.length l0_2) (hc0_2 : l0_2.length ≤ c0_2) (hr0_3 : Kd.C (Kd.int .i64) w A0_3 l0_3.length l0_3) (hc0_3 : l0_3.length ≤ c0_3) (hT : Aside0 (r = true)) (h : swagelaw08_ProgChecks.f k a0_0 a0_1 l0_2 l0_3 = some r) :
    Calls Tryd.prog 3 #[.agg #[.int .i64 a0_0, .int .i64 a0_1, .slice A0_2 l0_2.length c0_2, .slice A0_3 l0_3.length c0_3]] w fun e w' => e = .returned (.bool r) ∧ Below w.heap.size w w' := by
  have hu25 := Tryd.underlying25
  have HR0_2 := Aside0.mk hr0_2
  have HC0_2 := Aside0.mk hc0_2
  clear hr0_2 hc0_2
  have HR0_3 := Aside0.mk hr0_3
  have HC0_3 := Aside0.mk hc0_3
  clear hr0_3 hc0_3
  have HB := Aside0.mk (Below.refl w.heap.size w)
  have H : ((swagelaw08_live.f k).bind fun t152 => (if t152 = true then (if (l0_2.length : Int) > 20000 then (swagelaw08_ProgChecks.j0 k true a0_0 a0_1 l0_2 l0_3) else (swagelaw08_ProgChecks.j0 k (decide (20000 < l0_3.length)) a0_0 a0_1 l0_2 l0_3)) else (some false))) = some r := h
  clear h
  replace H := Option.bind_eq_some_iff.mp H
  obtain ⟨t152, A20, H⟩ := H
  replace H : (if t152 = true then (if (l0_2.length : Int) > 20000 then (swagelaw08_ProgChecks.j0 k true a0_0 a0_1 l0_2 l0_3) else (swagelaw08_ProgChecks.j0 k (decide (20000 < l0_3.length)) a0_0 a0_1 l0_2 l0_3)) else (some false)) = some r := H
  have A2 := Aside0.mk A20
  clear A20
  by_cases c3 : t152 = true
  · subst c3
    have H1 : (if (l0_2.length : Int) > 20000 then (swagelaw08_ProgChecks.j0 k true a0_0 a0_1 l0_2 l0_3) else (swagelaw08_ProgChecks.j0 k (decide (20000 < l0_3.length)) a0_0 a0_1 l0_2 l0_3)) = some r := by rw [if_pos rfl] at H; exact H
    clear H
    have H := H1
    clear H1
    have HC4 := Aside0.mk H
    clear H
    go_enter Tryd.func3, Tryd.ntmps3
    go_upto_region 3 with (first | ((with_reducible refine gate_dst (N := 1) rfl ?_); (try (refine gate_guard (by rfl) ?_; dsimp only)); refine box_event ?hg (N := 1) ?hd (cs := #[.int .i64 a0_0, .int .i64 a0_1, .slice A0_2 l0_2.length c0_2, .slice A0_3 l0_3.length c0_3]) (t := 25) ?hr ?_; (case hd => rfl); (case hg => rfl); (case hr => first | (go_simp; done) | (go_simp; rfl)); intro gb151 hg w5 hbox hb; have n0_ := Aside0.mk (below_step (by repeat (first | (with_reducible first | exact HB.out | apply below_alloc | apply pw_below_drewN | apply below_drew1) | exact HB.out)) hb); have n1_ := Aside0.mk (hbox); have n2_ := Aside0.mk ((by rw [hg]; exact (below_size (by repeat (first | (with_reducible first | exact HB.out | apply below_alloc | apply pw_below_drewN | apply below_drew1) | exact HB.out))) : w.heap.size ≤ gb151)); have n3_ := Aside0.mk ((by rw [hg]; exact (below_size (by repeat (first | (with_reducible first | exact HB.out | apply below_alloc | apply pw_below_drewN | apply below_drew1) | exact HB.out))) : w.heap.size ≤ gb151)); clear HB; have HB := n0_; have BK151 := n1_; have GW151 := n2_; have GE151 := n3_; clear n0_ n1_ n2_ n3_; clear hb hbox hg) | ((with_reducible refine gate_callee (f := 10) rfl ?_); refine goesL_ (some 7) rfl rfl Tryd.func10 (by kernel_rfl) rfl #[] rfl (by (try simp only [List.map_toArray, List.map_cons, List.map_nil]); first | done | rfl | (simp only [List.length_drop, List.length_take]; rfl)) ?_; (with_reducible refine (swagelaw08_live.calls k  true _ A2.out).mono ?_); rintro e w6 ⟨rfl, hb⟩; refine ⟨_, rfl, ?_⟩; have n0_ := Aside0.mk (blk_below (g := gb151) (o := .cells #[.int .i64 a0_0, .int .i64 a0_1, .slice A0_2 l0_2.length c0_2, .slice A0_3 l0_3.length c0_3] 25 (0, 0)) (by (with_reducible repeat (first | refine blk_drewN ?_ _ | refine blk_drew ?_ | refine blk_alloc ?_ _)); exact BK151.out) hb); have n1_ := Aside0.mk (below_step (by repeat (first | (with_reducible first | exact HB.out | apply below_alloc | apply pw_below_drewN | apply below_drew1 | refine below_set ?_ GE151.out) | exact HB.out)) hb); clear BK151; clear HB; have BK151 := n0_; have HB := n1_; clear n0_ n1_; (try clear hb); (try clear hb2); (try clear hk); (try clear hi)))
    (try simp only [Act.put, List.setIfInBounds_toArray, List.set_cons_zero, List.set_cons_succ])
    go_cut [18] (fun v18 wc => ∃ (kq : Nat) (x18_3 : Bool), v18 = .bool x18_3 ∧ Aside0 (swagelaw08_ProgChecks.j0 kq x18_3 a0_0 a0_1 l0_2 l0_3 = some r) ∧ Aside0 (kq ≤ k) ∧ Aside0 (wc.heap[gb151]? = some (.cells #[.int .i64 a0_0, .int .i64 a0_1, (.slice A0_2 l0_2.length c0_2), (.slice A0_3 l0_3.length c0_3)] 25 (0, 0))) ∧ Aside0 (Below w.heap.size w wc))
    case first =>
      have H := HC4.out
      clear HC4
      by_cases c7 : (l0_2.length : Int) > 20000
      · rw [if_pos c7] at H
        have c7b0 : decide (20000 < (l0_2.length : Int)) = true := decide_eq_true c7
        have c7b1 : decide (20000 < l0_2.length) = true := decide_eq_true (by omega)
        clear c7
        (first | rw [c7b0] | (simp only [i64_w, i32_w]; rw [c7b0]) | skip)
        have H' := Aside0.mk H
        clear H
        have hcz8_0 : w6.cell? ⟨gb151, 0, none⟩ = some (.int .i64 a0_0) := (blk_cell BK151.out 0).trans rfl
        have hcz8_1 : w6.cell? ⟨gb151, 1, none⟩ = some (.int .i64 a0_1) := (blk_cell BK151.out 1).trans rfl
        have hcz8_2 : w6.cell? ⟨gb151, 2, none⟩ = some (.slice A0_2 l0_2.length c0_2) := (blk_cell BK151.out 2).trans rfl
        have hcz8_3 : w6.cell? ⟨gb151, 3, none⟩ = some (.slice A0_3 l0_3.length c0_3) := (blk_cell BK151.out 3).trans rfl
        have hfz8_0 := blk_frozen BK151.out 0
        have hfz8_1 := blk_frozen BK151.out 1
        have hfz8_2 := blk_frozen BK151.out 2
        have hfz8_3 := blk_frozen BK151.out 3
        go_wp2
        go_meet
        case rel => exact ⟨_, (true), (by first | rfl | (simp; done) | (simp [*]; done)), H', ⟨by first | omega | exact Nat.le_refl _⟩, ⟨by (with_reducible repeat (first | refine blk_drewN ?_ _ | refine blk_drew ?_ | refine blk_alloc ?_ _)); exact BK151.out⟩, ⟨by repeat (first | (with_reducible first | exact HB.out | apply below_alloc | apply pw_below_drewN | apply below_drew1 | refine below_set ?_ GE151.out) | exact HB.out)⟩⟩
      · rw [if_neg c7] at H
        have c7b0 : decide (20000 < (l0_2.length : Int)) = false := decide_eq_false c7
        have c7b1 : decide (20000 < l0_2.length) = false := decide_eq_false (by omega)
        clear c7
        (first | rw [c7b0] | (simp only [i64_w, i32_w]; rw [c7b0]) | skip)
        have H' := Aside0.mk H
        clear H
        have hcz9_0 : w6.cell? ⟨gb151, 0, none⟩ = some (.int .i64 a0_0) := (blk_cell BK151.out 0).trans rfl
        have hcz9_1 : w6.cell? ⟨gb151, 1, none⟩ = some (.int .i64 a0_1) := (blk_cell BK151.out 1).trans rfl
        have hcz9_2 : w6.cell? ⟨gb151, 2, none⟩ = some (.slice A0_2 l0_2.length c0_2) := (blk_cell BK151.out 2).trans rfl
        have hcz9_3 : w6.cell? ⟨gb151, 3, none⟩ = some (.slice A0_3 l0_3.length c0_3) := (blk_cell BK151.out 3).trans rfl
        have hfz9_0 := blk_frozen BK151.out 0
        have hfz9_1 := blk_frozen BK151.out 1
        have hfz9_2 := blk_frozen BK151.out 2
        have hfz9_3 := blk_frozen BK151.out 3
        go_wp2
        go_meet
        case rel => exact ⟨_, (decide (20000 < l0_3.length)), (by first | rfl | (simp; done) | (simp [*]; done) | (simp; omega)), H', ⟨by first | omega | exact Nat.le_refl _⟩, ⟨by (with_reducible repeat (first | refine blk_drewN ?_ _ | refine blk_drew ?_ | refine blk_alloc ?_ _)); exact BK151.out⟩, ⟨by repeat (first | (with_reducible first | exact HB.out | apply below_alloc | apply pw_below_drewN | apply below_drew1 | refine below_set ?_ GE151.out) | exact HB.out)⟩⟩
    case rest =>
      clear HC4
      try clear c3
      obtain ⟨kq, x18_3, rfl, HA, HJ3, BK151, HB⟩ := hcut
      cases kq with
      | zero => exact absurd HA.out (by simp [swagelaw08_ProgChecks.j0])
      | succ kj3 =>
        have H := HA.out
        clear HA
        simp only [swagelaw08_ProgChecks.j0] at H
        by_cases c10 : x18_3 = true
        · subst c10
          have H1 : (some true) = some r := by rw [if_pos rfl] at H; exact H
          clear H
          have H := H1
          clear H1
          obtain rfl := Option.some.inj H
          go_wp2
          go_ret
          exact ⟨by first | rfl | (simp [errW_none, errW_some] <;> rfl) | (simp [*, errW_none, errW_some] <;> rfl), by repeat (first | (with_reducible first | exact HB.out | apply below_alloc | apply pw_below_drewN | apply below_drew1 | refine below_set ?_ GE151.out) | exact HB.out)⟩
        · replace c10 := Bool.eq_false_iff.mpr c10
          subst c10
          have H1 : ((prog_Check.f kj3 a0_0 a0_1 l0_2 l0_3).bind fun bt153 => ((swageref08_Check.f kj3 a0_0 a0_1 l0_2 l0_3).bind fun bt155 => (if bt155.2 = true then (if bt153.1 = bt155.1 then (if bt153.2 = 80 then ((swagelaw08_live.f kj3).bind fun t157 => (some t157)) else (some false)) else (some false)) else (if bt153.1 = 0 then (some (bt153.2 == 0)) else (some false))))) = some r := by rw [if_neg (show ¬ (false = true) by decide)] at H; exact H
          clear H
          have H := H1
          clear H1
          replace H := Option.bind_eq_some_iff.mp H
          obtain ⟨⟨t153, t154⟩, A110, H⟩ := H
          replace H : ((swageref08_Check.f kj3 a0_0 a0_1 l0_2 l0_3).bind fun bt155 => (if bt155.2 = true then (if t153 = bt155.1 then (if t154 = 80 then ((swagelaw08_live.f kj3).bind fun t157 => (some t157)) else (some false)) else (some false)) else (if t153 = 0 then (some (t154 == 0)) else (some false)))) = some r := H
          have A11 := Aside0.mk A110
          clear A110
          replace H := Option.bind_eq_some_iff.mp H
          obtain ⟨⟨t155, t156⟩, A120, H⟩ := H
          replace H : (if t156 = true then (if t153 = t155 then (if t154 = 80 then ((swagelaw08_live.f kj3).bind fun t157 => (some t157)) else (some false)) else (some false)) else (if t153 = 0 then (some (t154 == 0)) else (some false))) = some r := H
          have A12 := Aside0.mk A120
          clear A120
          by_cases c13 : t156 = true
          · subst c13
            have H1 : (if t153 = t155 then (if t154 = 80 then ((swagelaw08_live.f kj3).bind fun t157 => (some t157)) else (some false)) else (some false)) = some r := by rw [if_pos rfl] at H; exact H
            clear H
            have H := H1
            clear H1
            by_cases c14 : t153 = t155
            · rw [if_pos c14] at H
              have c14b0 : (t153 == t155) = true := beq_iff_eq.mpr c14
              have c14b1 : (t153 != t155) = false := bne_eq_false_iff_eq.mpr c14
              clear c14
              by_cases c15 : t154 = 80
              · rw [if_pos c15] at H
                have c15b0 : (t154 == 80) = true := beq_iff_eq.mpr c15
                have c15b1 : (t154 != 80) = false := bne_eq_false_iff_eq.mpr c15
                clear c15
                replace H := Option.bind_eq_some_iff.mp H
                obtain ⟨t157, A160, H⟩ := H
                replace H : (some t157) = some r := H
                have A16 := Aside0.mk A160
                clear A160
                obtain rfl := Option.some.inj H
                have hcz17_0 : wc.cell? ⟨gb151, 0, none⟩ = some (.int .i64 a0_0) := (blk_cell BK151.out 0).trans rfl
                have hcz17_1 : wc.cell? ⟨gb151, 1, none⟩ = some (.int .i64 a0_1) := (blk_cell BK151.out 1).trans rfl
                have hcz17_2 : wc.cell? ⟨gb151, 2, none⟩ = some (.slice A0_2 l0_2.length c0_2) := (blk_cell BK151.out 2).trans rfl
                have hcz17_3 : wc.cell? ⟨gb151, 3, none⟩ = some (.slice A0_3 l0_3.length c0_3) := (blk_cell BK151.out 3).trans rfl
                have hfz17_0 := blk_frozen BK151.out 0
                have hfz17_1 := blk_frozen BK151.out 1
                have hfz17_2 := blk_frozen BK151.out 2
                have hfz17_3 := blk_frozen BK151.out 3
                go_wp2_with (first | ((with_reducible refine gate_callee (f := 11) rfl ?_); refine goesL_ (some 21) rfl rfl Tryd.func11 (by kernel_rfl) rfl #[.agg #[.int .i64 a0_0, .int .i64 a0_1, .slice A0_2 l0_2.length c0_2, .slice A0_3 l0_3.length c0_3]] rfl (by (try simp only [List.map_toArray, List.map_cons, List.map_nil]); first | done | rfl | (simp only [List.length_drop, List.length_take]; rfl)) ?_; (with_reducible refine (prog_Check.calls kj3 a0_0 a0_1 _ _ l0_2 _ _ l0_3 t153 t154 _ ?side1 ?side2 ?side3 ?side4 A11.out).mono ?_); (case side1 => repeat (first | exact (Kd.C_below HR0_2.out HB.out) | (with_reducible refine Kd.C_alloc ?_ _) | (with_reducible refine Kd.C_drewN ?_ _) | (with_reducible refine Kd.C_drew ?_))); (case side2 => exact HC0_2.out); (case side3 => repeat (first | exact (Kd.C_below HR0_3.out HB.out) | (with_reducible refine Kd.C_alloc ?_ _) | (with_reducible refine Kd.C_drewN ?_ _) | (with_reducible refine Kd.C_drew ?_))); (case side4 => exact HC0_3.out); rintro e w18 ⟨rfl, hb⟩; refine ⟨_, rfl, ?_⟩; have n0_ := Aside0.mk (blk_below (g := gb151) (o := .cells #[.int .i64 a0_0, .int .i64 a0_1, .slice A0_2 l0_2.length c0_2, .slice A0_3 l0_3.length c0_3] 25 (0, 0)) (by (with_reducible repeat (first | refine blk_drewN ?_ _ | refine blk_drew ?_ | refine blk_alloc ?_ _)); exact BK151.out) hb); have n1_ := Aside0.mk (below_step (by repeat (first | (with_reducible first | exact HB.out | apply below_alloc | apply pw_below_drewN | apply below_drew1 | refine below_set ?_ GE151.out) | exact HB.out)) hb); clear BK151; clear HB; have BK151 := n0_; have HB := n1_; clear n0_ n1_; (try clear hb); (try clear hb2); (try clear hk); (try clear hi); have hcz19_0 : w18.cell? ⟨gb151, 0, none⟩ = some (.int .i64 a0_0) := (blk_cell BK151.out 0).trans rfl; have hcz19_1 : w18.cell? ⟨gb151, 1, none⟩ = some (.int .i64 a0_1) := (blk_cell BK151.out 1).trans rfl; have hcz19_2 : w18.cell? ⟨gb151, 2, none⟩ = some (.slice A0_2 l0_2.length c0_2) := (blk_cell BK151.out 2).trans rfl; have hcz19_3 : w18.cell? ⟨gb151, 3, none⟩ = some (.slice A0_3 l0_3.length c0_3) := (blk_cell BK151.out 3).trans rfl; have hfz19_0 := blk_frozen BK151.out 0; have hfz19_1 := blk_frozen BK151.out 1; have hfz19_2 := blk_frozen BK151.out 2; have hfz19_3 := blk_frozen BK151.out 3) | ((with_reducible refine gate_callee (f := 12) rfl ?_); refine goesL_ (some 26) rfl rfl Tryd.func12 (by kernel_rfl) rfl #[.agg #[.int .i64 a0_0, .int .i64 a0_1, .slice A0_2 l0_2.length c0_2, .slice A0_3 l0_3.length c0_3]] rfl (by (try simp only [List.map_toArray, List.map_cons, List.map_nil]); first | done | rfl | (simp only [List.length_drop, List.length_take]; rfl)) ?_; (with_reducible refine (swageref08_Check.calls kj3 a0_0 a0_1 _ _ l0_2 _ _ l0_3 t155 true _ ?side1 ?side2 ?side3 ?side4 A12.out).mono ?_); (case side1 => repeat (first | exact (Kd.C_below HR0_2.out HB.out) | (with_reducible refine Kd.C_alloc ?_ _) | (with_reducible refine Kd.C_drewN ?_ _) | (with_reducible refine Kd.C_drew ?_))); (case side2 => exact HC0_2.out); (case side3 => repeat (first | exact (Kd.C_below HR0_3.out HB.out) | (with_reducible refine Kd.C_alloc ?_ _) | (with_reducible refine Kd.C_drewN ?_ _) | (with_reducible refine Kd.C_drew ?_))); (case side4 => exact HC0_3.out); rintro e w20 ⟨rfl, hb⟩; refine ⟨_, rfl, ?_⟩; have n0_ := Aside0.mk (blk_below (g := gb151) (o := .cells #[.int .i64 a0_0, .int .i64 a0_1, .slice A0_2 l0_2.length c0_2, .slice A0_3 l0_3.length c0_3] 25 (0, 0)) (by (with_reducible repeat (first | refine blk_drewN ?_ _ | refine blk_drew ?_ | refine blk_alloc ?_ _)); exact BK151.out) hb); have n1_ := Aside0.mk (below_step (by repeat (first | (with_reducible first | exact HB.out | apply below_alloc | apply pw_below_drewN | apply below_drew1 | refine below_set ?_ GE151.out) | exact HB.out)) hb); clear BK151; clear HB; have BK151 := n0_; have HB := n1_; clear n0_ n1_; (try clear hb); (try clear hb2); (try clear hk); (try clear hi)) | (go_at_call 10; (with_reducible refine (swagelaw08_live.calls kj3  t157 _ A16.out).mono ?_); rintro e w21 ⟨rfl, hb⟩; have n0_ := Aside0.mk (blk_below (g := gb151) (o := .cells #[.int .i64 a0_0, .int .i64 a0_1, .slice A0_2 l0_2.length c0_2, .slice A0_3 l0_3.length c0_3] 25 (0, 0)) (by (with_reducible repeat (first | refine blk_drewN ?_ _ | refine blk_drew ?_ | refine blk_alloc ?_ _)); exact BK151.out) hb); have n1_ := Aside0.mk (below_step (by repeat (first | (with_reducible first | exact HB.out | apply below_alloc | apply pw_below_drewN | apply below_drew1 | refine below_set ?_ GE151.out) | exact HB.out)) hb); clear BK151; clear HB; have BK151 := n0_; have HB := n1_; clear n0_ n1_; (try clear hb); (try clear hb2); (try clear hk); (try clear hi)))
                go_ret
                exact ⟨by first | rfl | (simp [errW_none, errW_some] <;> rfl) | (simp [*, errW_none, errW_some] <;> rfl), by repeat (first | (with_reducible first | exact HB.out | apply below_alloc | apply pw_below_drewN | apply below_drew1 | refine below_set ?_ GE151.out) | exact HB.out)⟩
              · rw [if_neg c15] at H
                have c15b0 : (t154 == 80) = false := beq_eq_false_iff_ne.mpr c15
                have c15b1 : (t154 != 80) = true := bne_iff_ne.mpr c15
                obtain rfl := Option.some.inj H
                exact absurd hT.out (by simp)
            · rw [if_neg c14] at H
              have c14b0 : (t153 == t155) = false := beq_eq_false_iff_ne.mpr c14
              have c14b1 : (t153 != t155) = true := bne_iff_ne.mpr c14
              obtain rfl := Option.some.inj H
              exact absurd hT.out (by simp)
          · replace c13 := Bool.eq_false_iff.mpr c13
            subst c13
            have H1 : (if t153 = 0 then (some (t154 == 0)) else (some false)) = some r := by rw [if_neg (show ¬ (false = true) by decide)] at H; exact H
            clear H
            have H := H1
            clear H1
            by_cases c22 : t153 = 0
            · rw [if_pos c22] at H
              have c22b0 : (t153 == 0) = true := beq_iff_eq.mpr c22
              have c22b1 : (t153 != 0) = false := bne_eq_false_iff_eq.mpr c22
              clear c22
              obtain rfl := Option.some.inj H
              have hcz23_0 : wc.cell? ⟨gb151, 0, none⟩ = some (.int .i64 a0_0) := (blk_cell BK151.out 0).trans rfl
              have hcz23_1 : wc.cell? ⟨gb151, 1, none⟩ = some (.int .i64 a0_1) := (blk_cell BK151.out 1).trans rfl
              have hcz23_2 : wc.cell? ⟨gb151, 2, none⟩ = some (.slice A0_2 l0_2.length c0_2) := (blk_cell BK151.out 2).trans rfl
              have hcz23_3 : wc.cell? ⟨gb151, 3, none⟩ = some (.slice A0_3 l0_3.length c0_3) := (blk_cell BK151.out 3).trans rfl
              have hfz23_0 := blk_frozen BK151.out 0
              have hfz23_1 := blk_frozen BK151.out 1
              have hfz23_2 := blk_frozen BK151.out 2
              have hfz23_3 := blk_frozen BK151.out 3
              go_wp2_with (first | ((with_reducible refine gate_callee (f := 11) rfl ?_); refine goesL_ (some 21) rfl rfl Tryd.func11 (by kernel_rfl) rfl #[.agg #[.int .i64 a0_0, .int .i64 a0_1, .slice A0_2 l0_2.length c0_2, .slice A0_3 l0_3.length c0_3]] rfl (by (try simp only [List.map_toArray, List.map_cons, List.map_nil]); first | done | rfl | (simp only [List.length_drop, List.length_take]; rfl)) ?_; (with_reducible refine (prog_Check.calls kj3 a0_0 a0_1 _ _ l0_2 _ _ l0_3 t153 t154 _ ?side1 ?side2 ?side3 ?side4 A11.out).mono ?_); (case side1 => repeat (first | exact (Kd.C_below HR0_2.out HB.out) | (with_reducible refine Kd.C_alloc ?_ _) | (with_reducible refine Kd.C_drewN ?_ _) | (with_reducible refine Kd.C_drew ?_))); (case side2 => exact HC0_2.out); (case side3 => repeat (first | exact (Kd.C_below HR0_3.out HB.out) | (with_reducible refine Kd.C_alloc ?_ _) | (with_reducible refine Kd.C_drewN ?_ _) | (with_reducible refine Kd.C_drew ?_))); (case side4 => exact HC0_3.out); rintro e w24 ⟨rfl, hb⟩; refine ⟨_, rfl, ?_⟩; have n0_ := Aside0.mk (blk_below (g := gb151) (o := .cells #[.int .i64 a0_0, .int .i64 a0_1, .slice A0_2 l0_2.length c0_2, .slice A0_3 l0_3.length c0_3] 25 (0, 0)) (by (with_reducible repeat (first | refine blk_drewN ?_ _ | refine blk_drew ?_ | refine blk_alloc ?_ _)); exact BK151.out) hb); have n1_ := Aside0.mk (below_step (by repeat (first | (with_reducible first | exact HB.out | apply below_alloc | apply pw_below_drewN | apply below_drew1 | refine below_set ?_ GE151.out) | exact HB.out)) hb); clear BK151; clear HB; have BK151 := n0_; have HB := n1_; clear n0_ n1_; (try clear hb); (try clear hb2); (try clear hk); (try clear hi); have hcz25_0 : w24.cell? ⟨gb151, 0, none⟩ = some (.int .i64 a0_0) := (blk_cell BK151.out 0).trans rfl; have hcz25_1 : w24.cell? ⟨gb151, 1, none⟩ = some (.int .i64 a0_1) := (blk_cell BK151.out 1).trans rfl; have hcz25_2 : w24.cell? ⟨gb151, 2, none⟩ = some (.slice A0_2 l0_2.length c0_2) := (blk_cell BK151.out 2).trans rfl; have hcz25_3 : w24.cell? ⟨gb151, 3, none⟩ = some (.slice A0_3 l0_3.length c0_3) := (blk_cell BK151.out 3).trans rfl; have hfz25_0 := blk_frozen BK151.out 0; have hfz25_1 := blk_frozen BK151.out 1; have hfz25_2 := blk_frozen BK151.out 2; have hfz25_3 := blk_frozen BK151.out 3) | ((with_reducible refine gate_callee (f := 12) rfl ?_); refine goesL_ (some 26) rfl rfl Tryd.func12 (by kernel_rfl) rfl #[.agg #[.int .i64 a0_0, .int .i64 a0_1, .slice A0_2 l0_2.length c0_2, .slice A0_3 l0_3.length c0_3]] rfl (by (try simp only [List.map_toArray, List.map_cons, List.map_nil]); first | done | rfl | (simp only [List.length_drop, List.length_take]; rfl)) ?_; (with_reducible refine (swageref08_Check.calls kj3 a0_0 a0_1 _ _ l0_2 _ _ l0_3 t155 false _ ?side1 ?side2 ?side3 ?side4 A12.out).mono ?_); (case side1 => repeat (first | exact (Kd.C_below HR0_2.out HB.out) | (with_reducible refine Kd.C_alloc ?_ _) | (with_reducible refine Kd.C_drewN ?_ _) | (with_reducible refine Kd.C_drew ?_))); (case side2 => exact HC0_2.out); (case side3 => repeat (first | exact (Kd.C_below HR0_3.out HB.out) | (with_reducible refine Kd.C_alloc ?_ _) | (with_reducible refine Kd.C_drewN ?_ _) | (with_reducible refine Kd.C_drew ?_))); (case side4 => exact HC0_3.out); rintro e w26 ⟨rfl, hb⟩; refine ⟨_, rfl, ?_⟩; have n0_ := Aside0.mk (blk_below (g := gb151) (o := .cells #[.int .i64 a0_0, .int .i64 a0_1, .slice A0_2 l0_2.length c0_2, .slice A0_3 l0_3.length c0_3] 25 (0, 0)) (by (with_reducible repeat (first | refine blk_drewN ?_ _ | refine blk_drew ?_ | refine blk_alloc ?_ _)); exact BK151.out) hb); have n1_ := Aside0.mk (below_step (by repeat (first | (with_reducible first | exact HB.out | apply below_alloc | apply pw_below_drewN | apply below_drew1 | refine below_set ?_ GE151.out) | exact HB.out)) hb); clear BK151; clear HB; have BK151 := n0_; have HB := n1_; clear n0_ n1_; (try clear hb); (try clear hb2); (try clear hk); (try clear hi)))
              go_ret
              exact ⟨by first | rfl | (simp [errW_none, errW_some] <;> rfl) | (simp [*, errW_none, errW_some] <;> rfl), by repeat (first | (with_reducible first | exact HB.out | apply below_alloc | apply pw_below_drewN | apply below_drew1 | refine below_set ?_ GE151.out) | exact HB.out)⟩
            · rw [if_neg c22] at H
              have c22b0 : (t153 == 0) = false := beq_eq_false_iff_ne.mpr c22
              have c22b1 : (t153 != 0) = true := bne_iff_ne.mpr c22
              obtain rfl := Option.some.inj H
              exact absurd hT.out (by simp)
  · replace c3 := Bool.eq_false_iff.mpr c3
    subst c3
    have H1 : (some false) = some r := by rw [if_neg (show ¬ (false = true) by decide)] at H; exact H
    clear H
    have H := H1
    clear H1
    obtain rfl := Option.some.inj H
    exact absurd hT.out (by simp)

end Go.Proofs.YtkknkdmdglncoaaDoor.XA
end

section
namespace Go.Proofs.YtkknkdmdglncoaaDoor.SaidProgChecks
open Go.RowKit Go.Proofs.YtkknkdmdglncoaaDoorW.PrintWords Go.Proofs.YtkknkdmdglncoaaDoorW.PrintLast Go.Proofs.YtkknkdmdglncoaaDoor.Opn Go.Proofs.YtkknkdmdglncoaaDoor.XA
set_option linter.unusedVariables false
/-- What is known of whatever is read at this type. -/
def wfS37 (x : S37) : Prop := (Lit.int .i64 x.f0).wf = true ∧ (Lit.int .i64 x.f1).wf = true ∧ (Lit.int .i64 x.f2).wf = true ∧ (Lit.int .i64 x.f3).wf = true ∧ (Lit.int .i64 x.f4).wf = true
theorem opnS37 : Opn Tryd.prog 37 k37 wfS37 := opn_iso (fun x : S37 => (x.f0, x.f1, x.f2, x.f3, x.f4)) (fun p => ⟨p.1, p.2.1, p.2.2.1, p.2.2.2.1, p.2.2.2.2⟩) (fun _ => rfl) (opn_struct Tryd.underlying37 (by kernel_rfl) (fs_cons rfl (by kernel_rfl) (opn_int Tryd.underlying3) (fs_cons rfl (by kernel_rfl) (opn_int Tryd.underlying3) (fs_cons rfl (by kernel_rfl) (opn_int Tryd.underlying3) (fs_cons rfl (by kernel_rfl) (opn_int Tryd.underlying3) (fs_one rfl (by kernel_rfl) (opn_int Tryd.underlying3)))))))
/-- What is known of whatever is read at this type. -/
def wfS25 (x : S25) : Prop := (Lit.int .i64 x.f0).wf = true ∧ (Lit.int .i64 x.f1).wf = true ∧ (x.f2.length * 40 ≤ 140737488351232 ∧ x.f2.length ≤ 9223372036854775807 ∧ ∀ y ∈ x.f2, wfS37 y) ∧ (x.f3.length * 8 ≤ 140737488351232 ∧ x.f3.length ≤ 9223372036854775807 ∧ ∀ y ∈ x.f3, (Lit.int .i64 y).wf = true)
theorem opnS25 : Opn Tryd.prog 25 k25 wfS25 := opn_iso (fun x : S25 => (x.f0, x.f1, x.f2, x.f3)) (fun p => ⟨p.1, p.2.1, p.2.2.1, p.2.2.2⟩) (fun _ => rfl) (opn_struct Tryd.underlying25 (by kernel_rfl) (fs_cons rfl (by kernel_rfl) (opn_int Tryd.underlying3) (fs_cons rfl (by kernel_rfl) (opn_int Tryd.underlying3) (fs_cons rfl (by kernel_rfl) (opn_slice (B := 40) Tryd.underlying22 (by kernel_rfl) (by kernel_rfl) (opnS37)) (fs_one rfl (by kernel_rfl) (opn_slice (B := 8) Tryd.underlying23 (by kernel_rfl) (by kernel_rfl) (opn_int Tryd.underlying3)))))))
/-- THE PURE STATEMENT. -/
def Pure : Prop := ∀ (x0 : S25), wfS25 x0 → ∃ k, swagelaw08_ProgChecks.f k x0.f0 x0.f1 x0.f2 x0.f3 = some true
end Go.Proofs.YtkknkdmdglncoaaDoor.SaidProgChecks
end

section
/- Rounds that suffice: words beside the printer's 'Ev'. -/
namespace Go.Proofs.YtkknkdmdglncoaaDoor.Evs
open Go.Proofs.YtkknkdmdglncoaaDoorW.PrintWords
section
variable {β : Type} {c : Prop} [Decidable c] {f g : Nat → Option β} {r : β}
theorem ev_pos (hc : c) (h : Ev f r) : Ev (fun n => if c then f n else g n) r := Ev.congr (fun _ => if_pos hc) h
theorem ev_neg (hc : ¬ c) (h : Ev g r) : Ev (fun n => if c then f n else g n) r := Ev.congr (fun _ => if_neg hc) h
end
end Go.Proofs.YtkknkdmdglncoaaDoor.Evs
end
