/- Part 5 of the proof of the law SplitLaid for every input: words, walks and plain laws. No condition. -/
import Derived.Test.YtakmkhokbcjapaaDoorKSplitLaid4
section
namespace Go.Proofs.YtakmkhokbcjapaaDoor.XA
open Go.Proofs.YtakmkhokbcjapaaDoor.Lift Go.RowKit Go.Proofs.YtakmkhokbcjapaaDoorW.PrintWords Go.Proofs.YtakmkhokbcjapaaDoorW.PrintLast Go.Proofs.YtakmkhokbcjapaaDoorW.PrintMore
attribute [local go_sem] max2_int min2_int max_two min_two max_three min_three max_four min_four   -- for this text's walks alone
set_option linter.unusedVariables false
set_option linter.unusedSimpArgs false

/-! ### swageref02_Text: function 34 -/
mutual
def swageref02_Text.l0 : Nat → List Int → List Int → Bool → List Int → Option (ByteArray)
 | 0, _, _, _, _ => none
 | k + 1, x3, x4, x261000, x261001 => if (x4.length : Int) > 0 then ((swageref02_divide.f k x4 (([10] : List Int))).bind fun bt264 => (if (bt264.2.length : Int) > 0 then (if 0 < (bt264.2.length : Int) then (if x3.length < 140737488355328 then (swageref02_Text.l0 k (x3 ++ [((48 + (rd bt264.2 0))) % 256]) bt264.1 x261000 x261001) else (none)) else (none)) else (if x3.length < 140737488355328 then (swageref02_Text.l0 k (x3 ++ [48]) bt264.1 x261000 x261001) else (none)))) else (if (x3.length : Int) = 0 then (some (⟨#[48]⟩ : ByteArray)) else (if x261000 = true then (if x3.length < 140737488355328 then (swageref02_Text.j1 k (x3 ++ [45])) else (none)) else (swageref02_Text.j1 k x3)))
def swageref02_Text.j1 : Nat → List Int → Option (ByteArray)
 | 0, _ => none
 | k + 1, x3 => swageref02_Text.l1 k x3 0
def swageref02_Text.l1 : Nat → List Int → Int → Option (ByteArray)
 | 0, _, _ => none
 | k + 1, x3, x8 => if x8 < (wrap64 ((x3.length : Int) / 2)) then (if 0 ≤ (wrap64 ((wrap64 ((x3.length : Int) - 1)) - x8)) then (if (wrap64 ((wrap64 ((x3.length : Int) - 1)) - x8)) < (x3.length : Int) then (if 0 ≤ x8 then (if x8 < (x3.length : Int) then (swageref02_Text.l1 k ((x3.set (x8 : Int).toNat (rd x3 (wrap64 ((wrap64 ((x3.length : Int) - 1)) - x8)))).set ((wrap64 ((wrap64 ((x3.length : Int) - 1)) - x8)) : Int).toNat (rd x3 x8)) (wrap64 (x8 + 1))) else (none)) else (none)) else (none)) else (none)) else (some (strOfNums x3))
end
def swageref02_Text.f (k : Nat) (a0_0 : Bool) (l0_1 : List Int) : Option (ByteArray) := swageref02_Text.l0 k ([] : List Int) l0_1 a0_0 l0_1
theorem swageref02_Text.mono_l : ∀ k, (∀ y0 y1 y2 y3, LeO (swageref02_Text.l0 k y0 y1 y2 y3) (swageref02_Text.l0 (k + 1) y0 y1 y2 y3)) ∧ (∀ y0, LeO (swageref02_Text.j1 k y0) (swageref02_Text.j1 (k + 1) y0)) ∧ (∀ y0 y1, LeO (swageref02_Text.l1 k y0 y1) (swageref02_Text.l1 (k + 1) y0 y1))
 | 0 => ⟨fun _ _ _ _ r h => by simp [swageref02_Text.l0] at h, fun _ r h => by simp [swageref02_Text.j1] at h, fun _ _ r h => by simp [swageref02_Text.l1] at h⟩
 | k + 1 => by
  obtain ⟨ih0, ih1, ih2⟩ := swageref02_Text.mono_l k
  refine ⟨?_, ?_, ?_⟩
  ·intro y0 y1 y2 y3
   unfold swageref02_Text.l0
   repeat' first
   | (with_reducible exact ih0 _ _ _ _)
   | (with_reducible exact ih1 _)
   | (with_reducible exact ih2 _ _)
   | (with_reducible exact swageref02_divide.mono _ _ _)
   | (with_reducible exact LeO.refl _)
   | (with_reducible exact LeO.none _)
   | (with_reducible refine LeO.ite ?_ ?_)
   | (with_reducible refine LeO.bind ?_ (fun _ => ?_))
   | exact ih0 _ _ _ _
   | exact ih1 _
   | exact ih2 _ _
   | exact swageref02_divide.mono _ _ _
   | exact LeO.none _
   | refine LeO.ite ?_ ?_
   | refine LeO.bind ?_ (fun _ => ?_)
  ·intro y0
   unfold swageref02_Text.j1
   repeat' first
   | (with_reducible exact ih0 _ _ _ _)
   | (with_reducible exact ih1 _)
   | (with_reducible exact ih2 _ _)
   | (with_reducible exact swageref02_divide.mono _ _ _)
   | (with_reducible exact LeO.refl _)
   | (with_reducible exact LeO.none _)
   | (with_reducible refine LeO.ite ?_ ?_)
   | (with_reducible refine LeO.bind ?_ (fun _ => ?_))
   | exact ih0 _ _ _ _
   | exact ih1 _
   | exact ih2 _ _
   | exact swageref02_divide.mono _ _ _
   | exact LeO.none _
   | refine LeO.ite ?_ ?_
   | refine LeO.bind ?_ (fun _ => ?_)
  ·intro y0 y1
   unfold swageref02_Text.l1
   repeat' first
   | (with_reducible exact ih0 _ _ _ _)
   | (with_reducible exact ih1 _)
   | (with_reducible exact ih2 _ _)
   | (with_reducible exact swageref02_divide.mono _ _ _)
   | (with_reducible exact LeO.refl _)
   | (with_reducible exact LeO.none _)
   | (with_reducible refine LeO.ite ?_ ?_)
   | (with_reducible refine LeO.bind ?_ (fun _ => ?_))
   | exact ih0 _ _ _ _
   | exact ih1 _
   | exact ih2 _ _
   | exact swageref02_divide.mono _ _ _
   | exact LeO.none _
   | refine LeO.ite ?_ ?_
   | refine LeO.bind ?_ (fun _ => ?_)
theorem swageref02_Text.mono : ∀ a0 a1 k, LeO (swageref02_Text.f k a0 a1) (swageref02_Text.f (k + 1) a0 a1) := by
 intro a0 a1 k
 obtain ⟨ih0, ih1, ih2⟩ := swageref02_Text.mono_l k
 unfold swageref02_Text.f
 repeat' first
   | (with_reducible exact ih0 _ _ _ _)
   | (with_reducible exact ih1 _)
   | (with_reducible exact ih2 _ _)
   | (with_reducible exact swageref02_divide.mono _ _ _)
   | (with_reducible exact LeO.refl _)
   | (with_reducible exact LeO.none _)
   | (with_reducible refine LeO.ite ?_ ?_)
   | (with_reducible refine LeO.bind ?_ (fun _ => ?_))
   | exact ih0 _ _ _ _
   | exact ih1 _
   | exact ih2 _ _
   | exact swageref02_divide.mono _ _ _
   | exact LeO.none _
   | refine LeO.ite ?_ ?_
   | refine LeO.bind ?_ (fun _ => ?_)
def swageref02_Text.T17 : Bool × List (List Nat × List Nat) := (true, [([], []), ([], []), ([], []), ([], []), ([3], [3]), ([4], [4]), ([], []), ([5, 6], [5, 6]), ([], []), ([], []), ([9], [9]), ([10], [10]), ([], []), ([11, 12], [11, 12]), ([8, 13], [8, 13]), ([14], [14]), ([], []), ([], []), ([16, 17], [16, 17]), ([18], [18]), ([0, 1, 0, 1, 8, 9, 10, 11, 12, 13, 14, 15, 19], [0, 1]), ([20, 15, 0, 1, 8, 9, 10, 11, 12, 13, 14, 15, 19], [15, 20]), ([2, 7, 0, 1, 2, 3, 4, 5, 6, 7, 8, 9, 10, 11, 12, 13, 14, 15, 16, 17, 18, 19, 20, 21], [2, 7]), ([22, 19, 21, 0, 1, 2, 3, 4, 5, 6, 7, 8, 9, 10, 11, 12, 13, 14, 15, 16, 17, 18, 19, 20, 21], [19, 22])])
def swageref02_Text.B17 : List Nat := [0, 0, 0, 0, 8, 24, 0, 120, 0, 0, 512, 1536, 0, 7680, 16128, 32512, 0, 0, 196608, 458752, 1048323, 2096899, 4194303, 8388607]
theorem swageref02_Text.tab17 : rtab .any (opsOf Tryd.f34 17) = swageref02_Text.T17 := by kernel_rfl
theorem swageref02_Text.bits17 : waitsOk swageref02_Text.T17.2 swageref02_Text.B17 = true := by kernel_rfl
set_option maxHeartbeats 8000000 in
set_option maxRecDepth 100000 in
theorem swageref02_Text.calls (k : Nat) (a0_0 : Bool) (P0_1_ : Nat → Prop) (A0_1 : Option Addr) (c0_1 : Nat) (l0_1 : List Int) (r : ByteArray) (w : World) (hs0_1 : Kd.V (Kd.int .u32) 76 w w.heap.size (fun k_ => P0_1_ k_) (.slice A0_1 l0_1.length c0_1) l0_1) (h : swageref02_Text.f k a0_0 l0_1 = some r) :
  Calls Tryd.prog 34 #[.agg #[.bool a0_0, .slice A0_1 l0_1.length c0_1]] w fun e w' => e = .returned (.string r) ∧ Below w.heap.size w w' := by
 have hu68 := Tryd.underlying68
 have HO0_1 := Aside0.mk (show Kd.V (Kd.int .u32) 76 w w.heap.size (fun k_ => (P0_1_ k_ ∨ w.heap.size ≤ k_)) (.slice A0_1 l0_1.length c0_1) l0_1 from Kd.V_mono hs0_1 (fun k_ hk => .inl hk))
 have HB := Aside0.mk (Below.refl w.heap.size w)
 have H : (swageref02_Text.l0 k ([] : List Int) l0_1 a0_0 l0_1) = some r := h
 clear h
 have H' := Aside0.mk H
 clear H
 go_enter Tryd.func34, Tryd.ntmps34
 go_wp2_with (first | ((with_reducible refine gate_dst (N := 1) rfl ?_); refine box_event ?hg (N := 1) ?hd (cs := #[.bool a0_0, .slice A0_1 l0_1.length c0_1]) (t := 68) ?hr ?_; (case hd => rfl); (case hg => rfl); (case hr => first | (go_simp; done) | (go_simp; rfl)); intro gb260 hg w2 hbox hb; have n0_ := Aside0.mk (Kd.V_below (Kd.V_elderB (lV HO0_1) gb260 (Nat.le_of_eq hg.symm)) hb); have n1_ := Aside0.mk (below_step (lB HB) hb); have n2_ := Aside0.mk (hbox); have n3_ := Aside0.mk ((by rw [hg]; exact (below_size (lB HB)) : w.heap.size ≤ gb260)); have n4_ := Aside0.mk ((by rw [hg]; exact (below_size (lB HB)) : w.heap.size ≤ gb260)); clear HO0_1 HB; have HO0_1 := n0_; have HB := n1_; have BK260 := n2_; have GW260 := n3_; have GE260 := n4_; clear n0_ n1_ n2_ n3_ n4_; clear hb hbox hg; have hcz3_0 : w2.cell? ⟨gb260, 0, none⟩ = some (.bool a0_0) := (blk_cell BK260.out 0).trans rfl; have hcz3_1 : w2.cell? ⟨gb260, 1, none⟩ = some (.slice A0_1 l0_1.length c0_1) := (blk_cell BK260.out 1).trans rfl; have hfz3_0 := blk_frozen BK260.out 0; have hfz3_1 := blk_frozen BK260.out 1))
 go_loopg [3, 4] k (fun kq v3 v4 w' => ∃ (x3_1 : List Int) (x4_1 : List Int), Aside0 (swageref02_Text.l0 kq x3_1 x4_1 a0_0 l0_1 = some r) ∧ Aside0 (kq ≤ k) ∧ Aside0 (Kd.R (Kd.int .u8) 5 w' w.heap.size (fun k_ => (w.heap.size ≤ k_)) v3 x3_1) ∧ Aside0 (Kd.V (Kd.int .u32) 76 w' w.heap.size (fun k_ => (P0_1_ k_ ∨ w.heap.size ≤ k_) ∧ some k_ ≠ (v3 : Value).ownBlock ∧ k_ ≠ gb260) v4 x4_1) ∧ Aside0 (Kd.V (Kd.int .u32) 76 w' w.heap.size (fun k_ => (P0_1_ k_ ∨ w.heap.size ≤ k_) ∧ some k_ ≠ (v3 : Value).ownBlock ∧ k_ ≠ gb260) (.slice A0_1 l0_1.length c0_1) l0_1) ∧ Aside0 (w'.heap[gb260]? = some (.cells #[.bool a0_0, (.slice A0_1 l0_1.length c0_1)] 68 (0, 0))) ∧ Aside0 (Below w.heap.size w w'))
 case atStart => exact ⟨(([] : List Int)), (l0_1), H', ⟨Nat.le_refl _⟩, ⟨by first | exact Kd.R_nil _ _ _ _ _ | exact Kd.N_nil _ _ _ _ _ | exact Kd.V_nil _ _ _ _ _ | exact Kd.Q_nil _ _ _ _ _ | exact Kd.S_nil _ _ _ _ _⟩, ⟨by (with_reducible repeat (first | apply Kd.V_alloc | apply Kd.V_drewN | apply Kd.V_drew)); exact Kd.V_mono HO0_1.out (fun _ hk => ⟨hk.1, ⟨(by simp [Value.ownBlock]), hk.2⟩⟩)⟩, ⟨by (with_reducible repeat (first | apply Kd.V_alloc | apply Kd.V_drewN | apply Kd.V_drew)); exact Kd.V_mono HO0_1.out (fun _ hk => ⟨hk.1, ⟨(by simp [Value.ownBlock]), hk.2⟩⟩)⟩, ⟨by (with_reducible repeat (first | refine blk_drewN ?_ _ | refine blk_drew ?_ | refine blk_alloc ?_ _)); exact BK260.out⟩, ⟨by repeat (first | (with_reducible first | exact HB.out | apply below_alloc | apply pw_below_drewN | apply below_drew1 | refine below_set ?_ GE260.out) | exact HB.out)⟩⟩
 case round =>
  clear H'
  obtain ⟨x3_1, x4_1, HA, HK1, HO_3, HO_4, HO_261001, BK260, HB⟩ := hrel
  cases gk with
  | zero => exact absurd HA.out (by simp [swageref02_Text.l0])
  | succ k1 =>
   have H := HA.out
   clear HA
   simp only [swageref02_Text.l0] at H
   by_cases c4 : (x4_1.length : Int) > 0
   ·rw [if_pos c4] at H
    have c4b0 : decide (0 < (x4_1.length : Int)) = true := decide_eq_true c4
    have c4b1 : decide (0 < x4_1.length) = true := decide_eq_true (by omega)
    clear c4
    obtain ⟨y261, hy261⟩ : ∃ y_ : List Int, y_ = (([10] : List Int)) := ⟨_, rfl⟩
    replace H : ((swageref02_divide.f k1 x4_1 y261).bind fun bt264 => (if (bt264.2.length : Int) > 0 then (if 0 < (bt264.2.length : Int) then (if x3_1.length < 140737488355328 then (swageref02_Text.l0 k1 (x3_1 ++ [((48 + (rd bt264.2 0))) % 256]) bt264.1 a0_0 l0_1) else (none)) else (none)) else (if x3_1.length < 140737488355328 then (swageref02_Text.l0 k1 (x3_1 ++ [48]) bt264.1 a0_0 l0_1) else (none)))) = some r := by first | (rw [hy261]; with_reducible exact H) | (have H2_ := (Option.bind_some _ _).symm.trans H; rw [hy261]; with_reducible exact H2_) | (have H2_ := (Option.bind_some _ _).symm.trans H; with_reducible exact H2_) | with_reducible exact H | (rw [hy261]; exact H) | exact H
    have Ny261 := Aside0.mk hy261
    clear hy261
    replace H := Option.bind_eq_some_iff.mp H
    obtain ⟨⟨t264, t267⟩, A50, H⟩ := H
    replace H : (if (t267.length : Int) > 0 then (if 0 < (t267.length : Int) then (if x3_1.length < 140737488355328 then (swageref02_Text.l0 k1 (x3_1 ++ [((48 + (rd t267 0))) % 256]) t264 a0_0 l0_1) else (none)) else (none)) else (if x3_1.length < 140737488355328 then (swageref02_Text.l0 k1 (x3_1 ++ [48]) t264 a0_0 l0_1) else (none))) = some r := H
    have A5 := Aside0.mk A50
    clear A50
    by_cases c6 : (t267.length : Int) > 0
    ·rw [if_pos c6] at H
     have c6b0 : decide (0 < (t267.length : Int)) = true := decide_eq_true c6
     have c6b1 : decide (0 < t267.length) = true := decide_eq_true (by omega)
     clear c6
     by_cases c7 : 0 < (t267.length : Int)
     ·rw [if_pos c7] at H
      have c7b0 : decide (0 < (t267.length : Int)) = true := decide_eq_true c7
      have c7b1 : decide (0 < t267.length) = true := decide_eq_true (by omega)
      clear c7
      by_cases c8 : x3_1.length < 140737488355328
      ·rw [if_pos c8] at H
       have LMc8 := Aside0.mk c8
       clear c8
       obtain ⟨y271, hy271⟩ : ∃ y_ : List Int, y_ = (x3_1 ++ [((48 + (rd t267 0))) % 256]) := ⟨_, rfl⟩
       replace H : (swageref02_Text.l0 k1 y271 t264 a0_0 l0_1) = some r := by first | (rw [hy271]; with_reducible exact H) | (have H2_ := (Option.bind_some _ _).symm.trans H; rw [hy271]; with_reducible exact H2_) | (have H2_ := (Option.bind_some _ _).symm.trans H; with_reducible exact H2_) | with_reducible exact H | (rw [hy271]; exact H) | exact H
       have Ny271 := Aside0.mk hy271
       clear hy271
       have H' := Aside0.mk H
       clear H
       obtain ⟨Ao9, co9, eo9⟩ := Kd.V_slice HO_4.out
       subst eo9
       go_wp2_with (first | ((with_reducible refine gate_dst (N := 16) rfl ?_); refine Kd.R_lit (Kd.int .u32) _ 76 ?hg (N := 16) ?hd (xs := ([10] : List Int)) (inner := [.int .u32 10]) (ok := fun _ => True) (okp := fun _ => True) ?hr ?hp (fun _ hk => hk) trivial (Below.refl _ _) (Nat.le_refl _) (by simp) ?_; (case hd => rfl); (case hg => rfl); (case hr => first | (go_simp; done) | (go_simp; rfl)); (case hp => exact (Reps.one (show Kd.M (Kd.int .u32) _ _ _ 10 [.int .u32 10] from rfl) (Reps.none _ _))); intro v262 w10 ho11 hb hg_ hnew_; clear hg_ hnew_; (first | rw [← Ny261.out] at ho11 | (simp only [Int.reduceToNat] at ho11; rw [← Ny261.out] at ho11)); have n0_ := Aside0.mk (Kd.R_below (lR HO_3) hb); have n1_ := Aside0.mk (Kd.V_elder' (lV HO_4) (Kd.R_base ho11) hb); have n2_ := Aside0.mk (Kd.V_elder' (lV HO_261001) (Kd.R_base ho11) hb); have n3_ := Aside0.mk (Kd.R_lower (Kd.R_newM (M := fun k_ => (w.heap.size ≤ k_)) ho11 (below_size (by repeat (first | (with_reducible first | exact HB.out | apply below_alloc | apply pw_below_drewN | apply below_drew1 | refine below_set ?_ GE260.out) | exact HB.out))) (fun k_ h_ => h_)) (below_size (by repeat (first | (with_reducible first | exact HB.out | apply below_alloc | apply pw_below_drewN | apply below_drew1 | refine below_set ?_ GE260.out) | exact HB.out)))); have n4_ := Aside0.mk (blk_below (g := gb260) (o := .cells #[.bool a0_0, .slice A0_1 l0_1.length c0_1] 68 (0, 0)) (lK BK260) hb); have n5_ := Aside0.mk (below_step (by repeat (first | (with_reducible first | exact HB.out | apply below_alloc | apply pw_below_drewN | apply below_drew1 | refine below_set ?_ GE260.out) | exact HB.out)) hb); clear HO_3 HO_4 HO_261001; clear BK260; clear HB; have HO_3 := n0_; have HO_4 := n1_; have HO_261001 := n2_; have HO263 := n3_; have BK260 := n4_; have HB := n5_; clear n0_ n1_ n2_ n3_ n4_ n5_; clear hb ho11; obtain ⟨Ao12, co12, eo12⟩ := Kd.R_slice HO263.out; subst eo12) | ((with_reducible refine gate_callee (f := 50) rfl ?_); refine goesL_ (some 17) rfl rfl Tryd.func50 (by kernel_rfl) rfl #[.slice Ao9 x4_1.length co9, .slice Ao12 y261.length co12] rfl (by (try simp only [List.map_toArray, List.map_cons, List.map_nil]); first | done | rfl | (simp only [List.length_drop, List.length_take]; rfl)) ?_; (with_reducible refine (swageref02_divide.calls k1 _ _ x4_1 _ _ y261 t264 t267 _ ?side1 ?side2 ?side3 ?side4 A5.out).mono ?_); (case side1 => repeat (first | exact (Kd.V_reads' HO_4.out).2.2 | (with_reducible refine Kd.C_alloc ?_ _) | (with_reducible refine Kd.C_drewN ?_ _) | (with_reducible refine Kd.C_drew ?_))); (case side2 => exact (Kd.V_reads' HO_4.out).2.1); (case side3 => repeat (first | exact (Kd.R_reads' HO263.out).2.2 | (with_reducible refine Kd.C_alloc ?_ _) | (with_reducible refine Kd.C_drewN ?_ _) | (with_reducible refine Kd.C_drew ?_))); (case side4 => exact (Kd.R_reads' HO263.out).2.1); rintro e w13 ⟨v265, v268, rfl, ho0, ho1, hb⟩; refine ⟨_, rfl, ?_⟩; have n0_ := Aside0.mk (Kd.R_below (lR HO_3) hb); have n1_ := Aside0.mk (Kd.V_below (lV HO_4) hb); have n2_ := Aside0.mk (Kd.V_below (lV HO_261001) hb); have n3_ := Aside0.mk (Kd.R_below (lR HO263) hb); have n4_ := Aside0.mk (Kd.V_lower (Kd.V_mono (ok' := fun k_ => (P0_1_ k_ ∨ w.heap.size ≤ k_) ∧ some k_ ≠ (u3 : Value).ownBlock ∧ some k_ ≠ (.slice Ao12 y261.length co12 : Value).ownBlock ∧ k_ ≠ gb260) ho0 (fun k_ hk_ => ⟨(.inr (Nat.le_trans (below_size (by repeat (first | (with_reducible first | exact HB.out | apply below_alloc | apply pw_below_drewN | apply below_drew1 | refine below_set ?_ GE260.out) | exact HB.out))) hk_)), (Kd.fresh' (Kd.R_lt (lR HO_3)) k_ hk_), (Kd.fresh' (Kd.R_lt (lR HO263)) k_ hk_), (Kd.freshB (g := gb260) (o := .cells #[.bool a0_0, .slice A0_1 l0_1.length c0_1] 68 (0, 0)) (lK BK260) k_ hk_)⟩)) (below_size (by repeat (first | (with_reducible first | exact HB.out | apply below_alloc | apply pw_below_drewN | apply below_drew1 | refine below_set ?_ GE260.out) | exact HB.out)))); have n5_ := Aside0.mk (Kd.V_lower (Kd.V_mono (ok' := fun k_ => (P0_1_ k_ ∨ w.heap.size ≤ k_) ∧ some k_ ≠ (u3 : Value).ownBlock ∧ some k_ ≠ (.slice Ao12 y261.length co12 : Value).ownBlock ∧ k_ ≠ gb260) ho1 (fun k_ hk_ => ⟨(.inr (Nat.le_trans (below_size (by repeat (first | (with_reducible first | exact HB.out | apply below_alloc | apply pw_below_drewN | apply below_drew1 | refine below_set ?_ GE260.out) | exact HB.out))) hk_)), (Kd.fresh' (Kd.R_lt (lR HO_3)) k_ hk_), (Kd.fresh' (Kd.R_lt (lR HO263)) k_ hk_), (Kd.freshB (g := gb260) (o := .cells #[.bool a0_0, .slice A0_1 l0_1.length c0_1] 68 (0, 0)) (lK BK260) k_ hk_)⟩)) (below_size (by repeat (first | (with_reducible first | exact HB.out | apply below_alloc | apply pw_below_drewN | apply below_drew1 | refine below_set ?_ GE260.out) | exact HB.out)))); have n6_ := Aside0.mk (blk_below (g := gb260) (o := .cells #[.bool a0_0, .slice A0_1 l0_1.length c0_1] 68 (0, 0)) (lK BK260) hb); have n7_ := Aside0.mk (below_step (by repeat (first | (with_reducible first | exact HB.out | apply below_alloc | apply pw_below_drewN | apply below_drew1 | refine below_set ?_ GE260.out) | exact HB.out)) hb); clear HO_3 HO_4 HO_261001 HO263; clear BK260; clear HB; have HO_3 := n0_; have HO_4 := n1_; have HO_261001 := n2_; have HO263 := n3_; have HO266 := n4_; have HO269 := n5_; have BK260 := n6_; have HB := n7_; clear n0_ n1_ n2_ n3_ n4_ n5_ n6_ n7_; (try clear hb); (try clear hb2); (try clear hk); (try clear hi); (try clear ho0); (try clear ho1); obtain ⟨Ao14, co14, eo14⟩ := Kd.V_slice HO269.out; subst eo14; have p270 : 0 ≤ (0 : Int) := (by omega); have q270 : 0 < (t267.length : Int) := of_decide_eq_true (by first | (with_reducible assumption) | assumption); obtain ⟨ad270, e270, hx270_0⟩ := Kd.at_int (Kd.V_reads' HO269.out).2.2 0 p270 q270; cases e270; have qi270 : (0 < t267.length) = True := eq_true (by omega); (try rw [show ((0 : Int)).toNat = 0 from rfl] at hx270_0); (try rw [Addr.add_zero'] at hx270_0); replace p270 := eq_true p270; replace q270 := eq_true q270) | ((with_reducible refine gate_builtin (b := .append) (xs := #[.tmp 26, .tmp 30]) rfl ?_); at_builtin; refine Kd.R_append (Kd.int .u8) (w0 := w) w.heap.size rfl (.tmp 26) (.tmp 30) 89 5 (.int .u8 0) 1 rfl Tryd.underlying89 info5 rfl (by decide) (by omega) u3 x3_1 (((48 + (rd t267 0))) % 256) [.int .u8 (((48 + (rd t267 0))) % 256)] (fun k_ => (w.heap.size ≤ k_)) (fun _ => False) rfl rfl ?aP (fun _ hk => hk.elim) ?aF ?aO ?aB ?aS ?aL ?_; (case aP => exact rfl); (case aB => exact (by repeat (first | (with_reducible first | exact HB.out | apply below_alloc | apply pw_below_drewN | apply below_drew1 | refine below_set ?_ GE260.out) | exact HB.out))); (case aF => exact (fun k_ hk => (Nat.le_trans (below_size (by repeat (first | (with_reducible first | exact HB.out | apply below_alloc | apply pw_below_drewN | apply below_drew1 | refine below_set ?_ GE260.out) | exact HB.out))) hk))); (case aO => exact (lR HO_3)); (case aS => exact (below_size (by repeat (first | (with_reducible first | exact HB.out | apply below_alloc | apply pw_below_drewN | apply below_drew1 | refine below_set ?_ GE260.out) | exact HB.out)))); (case aL => have := LMc8.out; omega); intro v272 w15 ho hb hg hat; rw [← Ny271.out] at ho; have n0_ := Aside0.mk (Kd.V_afterv (ok := (fun k_ => (P0_1_ k_ ∨ w.heap.size ≤ k_) ∧ some k_ ≠ (.slice Ao12 y261.length co12 : Value).ownBlock ∧ k_ ≠ gb260)) (by (with_reducible repeat (first | apply Kd.V_alloc | apply Kd.V_drewN | apply Kd.V_drew)); exact Kd.V_mono HO_4.out (fun _ hk => ⟨⟨hk.1.1, ⟨hk.2, hk.1.2.2⟩⟩, hk.1.2.1⟩)) hg hat); have n1_ := Aside0.mk (Kd.V_afterv (ok := (fun k_ => (P0_1_ k_ ∨ w.heap.size ≤ k_) ∧ some k_ ≠ (.slice Ao12 y261.length co12 : Value).ownBlock ∧ k_ ≠ gb260)) (by (with_reducible repeat (first | apply Kd.V_alloc | apply Kd.V_drewN | apply Kd.V_drew)); exact Kd.V_mono HO_261001.out (fun _ hk => ⟨⟨hk.1.1, ⟨hk.2, hk.1.2.2⟩⟩, hk.1.2.1⟩)) hg hat); have n2_ := Aside0.mk (blk_grown (g := gb260) (o := .cells #[.bool a0_0, .slice A0_1 l0_1.length c0_1] 68 (0, 0)) (lK BK260) hg (Kd.R_ne HO_3.out BK260.out (by decide))); have n3_ := Aside0.mk (Kd.R_over' (lR HO263) (Kd.R_typed (lR HO_3)) (by decide) hg); have n4_ := Aside0.mk (Kd.V_afterv (ok := (fun k_ => (P0_1_ k_ ∨ w.heap.size ≤ k_) ∧ some k_ ≠ (.slice Ao12 y261.length co12 : Value).ownBlock ∧ k_ ≠ gb260)) (by (with_reducible repeat (first | apply Kd.V_alloc | apply Kd.V_drewN | apply Kd.V_drew)); exact Kd.V_mono HO266.out (fun _ hk => ⟨⟨hk.1, ⟨hk.2.2.1, hk.2.2.2⟩⟩, hk.2.1⟩)) hg hat); have n5_ := Aside0.mk (Kd.V_afterv (ok := (fun k_ => (P0_1_ k_ ∨ w.heap.size ≤ k_) ∧ some k_ ≠ (.slice Ao12 y261.length co12 : Value).ownBlock ∧ k_ ≠ gb260)) (by (with_reducible repeat (first | apply Kd.V_alloc | apply Kd.V_drewN | apply Kd.V_drew)); exact Kd.V_mono HO269.out (fun _ hk => ⟨⟨hk.1, ⟨hk.2.2.1, hk.2.2.2⟩⟩, hk.2.1⟩)) hg hat); have n6_ := Aside0.mk (hb); have n7_ := Aside0.mk (ho); clear HO_4 HO_261001; clear BK260; clear HO263 HO266 HO269 HB HO_3; have HO_4 := n0_; have HO_261001 := n1_; have BK260 := n2_; have HO263 := n3_; have HO266 := n4_; have HO269 := n5_; have HB := n6_; have HO273 := n7_; clear n0_ n1_ n2_ n3_ n4_ n5_ n6_ n7_; clear ho hb hg hat))
       go_roundg k1
       case measure => have := HK1.out; omega
       case rel => exact ⟨(y271), (t264), H', ⟨by have := HK1.out; omega⟩, ⟨by (with_reducible repeat (first | apply Kd.R_alloc | apply Kd.R_drewN | apply Kd.R_drew)); exact HO273.out⟩, ⟨by (with_reducible repeat (first | apply Kd.V_alloc | apply Kd.V_drewN | apply Kd.V_drew)); exact Kd.V_mono HO266.out (fun _ hk => ⟨hk.1.1, ⟨hk.2, hk.1.2.2⟩⟩)⟩, ⟨by (with_reducible repeat (first | apply Kd.V_alloc | apply Kd.V_drewN | apply Kd.V_drew)); exact Kd.V_mono HO_261001.out (fun _ hk => ⟨hk.1.1, ⟨hk.2, hk.1.2.2⟩⟩)⟩, ⟨by (with_reducible repeat (first | refine blk_drewN ?_ _ | refine blk_drew ?_ | refine blk_alloc ?_ _)); exact BK260.out⟩, ⟨by repeat (first | (with_reducible first | exact HB.out | apply below_alloc | apply pw_below_drewN | apply below_drew1 | refine below_set ?_ GE260.out) | exact HB.out)⟩⟩
      ·rw [if_neg c8] at H
       exact absurd H (by simp)
     ·rw [if_neg c7] at H
      exact absurd H (by simp)
    ·rw [if_neg c6] at H
     have c6b0 : decide (0 < (t267.length : Int)) = false := decide_eq_false c6
     have c6b1 : decide (0 < t267.length) = false := decide_eq_false (by omega)
     clear c6
     by_cases c16 : x3_1.length < 140737488355328
     ·rw [if_pos c16] at H
      have LMc16 := Aside0.mk c16
      clear c16
      obtain ⟨y274, hy274⟩ : ∃ y_ : List Int, y_ = (x3_1 ++ [48]) := ⟨_, rfl⟩
      replace H : (swageref02_Text.l0 k1 y274 t264 a0_0 l0_1) = some r := by first | (rw [hy274]; with_reducible exact H) | (have H2_ := (Option.bind_some _ _).symm.trans H; rw [hy274]; with_reducible exact H2_) | (have H2_ := (Option.bind_some _ _).symm.trans H; with_reducible exact H2_) | with_reducible exact H | (rw [hy274]; exact H) | exact H
      have Ny274 := Aside0.mk hy274
      clear hy274
      have H' := Aside0.mk H
      clear H
      obtain ⟨Ao17, co17, eo17⟩ := Kd.V_slice HO_4.out
      subst eo17
      go_wp2_with (first | ((with_reducible refine gate_dst (N := 16) rfl ?_); refine Kd.R_lit (Kd.int .u32) _ 76 ?hg (N := 16) ?hd (xs := ([10] : List Int)) (inner := [.int .u32 10]) (ok := fun _ => True) (okp := fun _ => True) ?hr ?hp (fun _ hk => hk) trivial (Below.refl _ _) (Nat.le_refl _) (by simp) ?_; (case hd => rfl); (case hg => rfl); (case hr => first | (go_simp; done) | (go_simp; rfl)); (case hp => exact (Reps.one (show Kd.M (Kd.int .u32) _ _ _ 10 [.int .u32 10] from rfl) (Reps.none _ _))); intro v262 w18 ho19 hb hg_ hnew_; clear hg_ hnew_; (first | rw [← Ny261.out] at ho19 | (simp only [Int.reduceToNat] at ho19; rw [← Ny261.out] at ho19)); have n0_ := Aside0.mk (Kd.R_below (lR HO_3) hb); have n1_ := Aside0.mk (Kd.V_elder' (lV HO_4) (Kd.R_base ho19) hb); have n2_ := Aside0.mk (Kd.V_elder' (lV HO_261001) (Kd.R_base ho19) hb); have n3_ := Aside0.mk (Kd.R_lower (Kd.R_newM (M := fun k_ => (w.heap.size ≤ k_)) ho19 (below_size (by repeat (first | (with_reducible first | exact HB.out | apply below_alloc | apply pw_below_drewN | apply below_drew1 | refine below_set ?_ GE260.out) | exact HB.out))) (fun k_ h_ => h_)) (below_size (by repeat (first | (with_reducible first | exact HB.out | apply below_alloc | apply pw_below_drewN | apply below_drew1 | refine below_set ?_ GE260.out) | exact HB.out)))); have n4_ := Aside0.mk (blk_below (g := gb260) (o := .cells #[.bool a0_0, .slice A0_1 l0_1.length c0_1] 68 (0, 0)) (lK BK260) hb); have n5_ := Aside0.mk (below_step (by repeat (first | (with_reducible first | exact HB.out | apply below_alloc | apply pw_below_drewN | apply below_drew1 | refine below_set ?_ GE260.out) | exact HB.out)) hb); clear HO_3 HO_4 HO_261001; clear BK260; clear HB; have HO_3 := n0_; have HO_4 := n1_; have HO_261001 := n2_; have HO263 := n3_; have BK260 := n4_; have HB := n5_; clear n0_ n1_ n2_ n3_ n4_ n5_; clear hb ho19; obtain ⟨Ao20, co20, eo20⟩ := Kd.R_slice HO263.out; subst eo20) | ((with_reducible refine gate_callee (f := 50) rfl ?_); refine goesL_ (some 17) rfl rfl Tryd.func50 (by kernel_rfl) rfl #[.slice Ao17 x4_1.length co17, .slice Ao20 y261.length co20] rfl (by (try simp only [List.map_toArray, List.map_cons, List.map_nil]); first | done | rfl | (simp only [List.length_drop, List.length_take]; rfl)) ?_; (with_reducible refine (swageref02_divide.calls k1 _ _ x4_1 _ _ y261 t264 t267 _ ?side1 ?side2 ?side3 ?side4 A5.out).mono ?_); (case side1 => repeat (first | exact (Kd.V_reads' HO_4.out).2.2 | (with_reducible refine Kd.C_alloc ?_ _) | (with_reducible refine Kd.C_drewN ?_ _) | (with_reducible refine Kd.C_drew ?_))); (case side2 => exact (Kd.V_reads' HO_4.out).2.1); (case side3 => repeat (first | exact (Kd.R_reads' HO263.out).2.2 | (with_reducible refine Kd.C_alloc ?_ _) | (with_reducible refine Kd.C_drewN ?_ _) | (with_reducible refine Kd.C_drew ?_))); (case side4 => exact (Kd.R_reads' HO263.out).2.1); rintro e w21 ⟨v265, v268, rfl, ho0, ho1, hb⟩; refine ⟨_, rfl, ?_⟩; have n0_ := Aside0.mk (Kd.R_below (lR HO_3) hb); have n1_ := Aside0.mk (Kd.V_below (lV HO_4) hb); have n2_ := Aside0.mk (Kd.V_below (lV HO_261001) hb); have n3_ := Aside0.mk (Kd.R_below (lR HO263) hb); have n4_ := Aside0.mk (Kd.V_lower (Kd.V_mono (ok' := fun k_ => (P0_1_ k_ ∨ w.heap.size ≤ k_) ∧ some k_ ≠ (u3 : Value).ownBlock ∧ some k_ ≠ (.slice Ao20 y261.length co20 : Value).ownBlock ∧ k_ ≠ gb260) ho0 (fun k_ hk_ => ⟨(.inr (Nat.le_trans (below_size (by repeat (first | (with_reducible first | exact HB.out | apply below_alloc | apply pw_below_drewN | apply below_drew1 | refine below_set ?_ GE260.out) | exact HB.out))) hk_)), (Kd.fresh' (Kd.R_lt (lR HO_3)) k_ hk_), (Kd.fresh' (Kd.R_lt (lR HO263)) k_ hk_), (Kd.freshB (g := gb260) (o := .cells #[.bool a0_0, .slice A0_1 l0_1.length c0_1] 68 (0, 0)) (lK BK260) k_ hk_)⟩)) (below_size (by repeat (first | (with_reducible first | exact HB.out | apply below_alloc | apply pw_below_drewN | apply below_drew1 | refine below_set ?_ GE260.out) | exact HB.out)))); have n5_ := Aside0.mk (Kd.V_lower (Kd.V_mono (ok' := fun k_ => (P0_1_ k_ ∨ w.heap.size ≤ k_) ∧ some k_ ≠ (u3 : Value).ownBlock ∧ some k_ ≠ (.slice Ao20 y261.length co20 : Value).ownBlock ∧ k_ ≠ gb260) ho1 (fun k_ hk_ => ⟨(.inr (Nat.le_trans (below_size (by repeat (first | (with_reducible first | exact HB.out | apply below_alloc | apply pw_below_drewN | apply below_drew1 | refine below_set ?_ GE260.out) | exact HB.out))) hk_)), (Kd.fresh' (Kd.R_lt (lR HO_3)) k_ hk_), (Kd.fresh' (Kd.R_lt (lR HO263)) k_ hk_), (Kd.freshB (g := gb260) (o := .cells #[.bool a0_0, .slice A0_1 l0_1.length c0_1] 68 (0, 0)) (lK BK260) k_ hk_)⟩)) (below_size (by repeat (first | (with_reducible first | exact HB.out | apply below_alloc | apply pw_below_drewN | apply below_drew1 | refine below_set ?_ GE260.out) | exact HB.out)))); have n6_ := Aside0.mk (blk_below (g := gb260) (o := .cells #[.bool a0_0, .slice A0_1 l0_1.length c0_1] 68 (0, 0)) (lK BK260) hb); have n7_ := Aside0.mk (below_step (by repeat (first | (with_reducible first | exact HB.out | apply below_alloc | apply pw_below_drewN | apply below_drew1 | refine below_set ?_ GE260.out) | exact HB.out)) hb); clear HO_3 HO_4 HO_261001 HO263; clear BK260; clear HB; have HO_3 := n0_; have HO_4 := n1_; have HO_261001 := n2_; have HO263 := n3_; have HO266 := n4_; have HO269 := n5_; have BK260 := n6_; have HB := n7_; clear n0_ n1_ n2_ n3_ n4_ n5_ n6_ n7_; (try clear hb); (try clear hb2); (try clear hk); (try clear hi); (try clear ho0); (try clear ho1); obtain ⟨Ao22, co22, eo22⟩ := Kd.V_slice HO269.out; subst eo22) | ((with_reducible refine gate_builtin (b := .append) (xs := #[.tmp 26, .tmp 30]) rfl ?_); at_builtin; refine Kd.R_append (Kd.int .u8) (w0 := w) w.heap.size rfl (.tmp 26) (.tmp 30) 89 5 (.int .u8 0) 1 rfl Tryd.underlying89 info5 rfl (by decide) (by omega) u3 x3_1 48 [.int .u8 48] (fun k_ => (w.heap.size ≤ k_)) (fun _ => False) rfl rfl ?aP (fun _ hk => hk.elim) ?aF ?aO ?aB ?aS ?aL ?_; (case aP => exact rfl); (case aB => exact (by repeat (first | (with_reducible first | exact HB.out | apply below_alloc | apply pw_below_drewN | apply below_drew1 | refine below_set ?_ GE260.out) | exact HB.out))); (case aF => exact (fun k_ hk => (Nat.le_trans (below_size (by repeat (first | (with_reducible first | exact HB.out | apply below_alloc | apply pw_below_drewN | apply below_drew1 | refine below_set ?_ GE260.out) | exact HB.out))) hk))); (case aO => exact (lR HO_3)); (case aS => exact (below_size (by repeat (first | (with_reducible first | exact HB.out | apply below_alloc | apply pw_below_drewN | apply below_drew1 | refine below_set ?_ GE260.out) | exact HB.out)))); (case aL => have := LMc16.out; omega); intro v275 w23 ho hb hg hat; rw [← Ny274.out] at ho; have n0_ := Aside0.mk (Kd.V_afterv (ok := (fun k_ => (P0_1_ k_ ∨ w.heap.size ≤ k_) ∧ some k_ ≠ (.slice Ao20 y261.length co20 : Value).ownBlock ∧ k_ ≠ gb260)) (by (with_reducible repeat (first | apply Kd.V_alloc | apply Kd.V_drewN | apply Kd.V_drew)); exact Kd.V_mono HO_4.out (fun _ hk => ⟨⟨hk.1.1, ⟨hk.2, hk.1.2.2⟩⟩, hk.1.2.1⟩)) hg hat); have n1_ := Aside0.mk (Kd.V_afterv (ok := (fun k_ => (P0_1_ k_ ∨ w.heap.size ≤ k_) ∧ some k_ ≠ (.slice Ao20 y261.length co20 : Value).ownBlock ∧ k_ ≠ gb260)) (by (with_reducible repeat (first | apply Kd.V_alloc | apply Kd.V_drewN | apply Kd.V_drew)); exact Kd.V_mono HO_261001.out (fun _ hk => ⟨⟨hk.1.1, ⟨hk.2, hk.1.2.2⟩⟩, hk.1.2.1⟩)) hg hat); have n2_ := Aside0.mk (blk_grown (g := gb260) (o := .cells #[.bool a0_0, .slice A0_1 l0_1.length c0_1] 68 (0, 0)) (lK BK260) hg (Kd.R_ne HO_3.out BK260.out (by decide))); have n3_ := Aside0.mk (Kd.R_over' (lR HO263) (Kd.R_typed (lR HO_3)) (by decide) hg); have n4_ := Aside0.mk (Kd.V_afterv (ok := (fun k_ => (P0_1_ k_ ∨ w.heap.size ≤ k_) ∧ some k_ ≠ (.slice Ao20 y261.length co20 : Value).ownBlock ∧ k_ ≠ gb260)) (by (with_reducible repeat (first | apply Kd.V_alloc | apply Kd.V_drewN | apply Kd.V_drew)); exact Kd.V_mono HO266.out (fun _ hk => ⟨⟨hk.1, ⟨hk.2.2.1, hk.2.2.2⟩⟩, hk.2.1⟩)) hg hat); have n5_ := Aside0.mk (Kd.V_afterv (ok := (fun k_ => (P0_1_ k_ ∨ w.heap.size ≤ k_) ∧ some k_ ≠ (.slice Ao20 y261.length co20 : Value).ownBlock ∧ k_ ≠ gb260)) (by (with_reducible repeat (first | apply Kd.V_alloc | apply Kd.V_drewN | apply Kd.V_drew)); exact Kd.V_mono HO269.out (fun _ hk => ⟨⟨hk.1, ⟨hk.2.2.1, hk.2.2.2⟩⟩, hk.2.1⟩)) hg hat); have n6_ := Aside0.mk (hb); have n7_ := Aside0.mk (ho); clear HO_4 HO_261001; clear BK260; clear HO263 HO266 HO269 HB HO_3; have HO_4 := n0_; have HO_261001 := n1_; have BK260 := n2_; have HO263 := n3_; have HO266 := n4_; have HO269 := n5_; have HB := n6_; have HO276 := n7_; clear n0_ n1_ n2_ n3_ n4_ n5_ n6_ n7_; clear ho hb hg hat))
      go_roundg k1
      case measure => have := HK1.out; omega
      case rel => exact ⟨(y274), (t264), H', ⟨by have := HK1.out; omega⟩, ⟨by (with_reducible repeat (first | apply Kd.R_alloc | apply Kd.R_drewN | apply Kd.R_drew)); exact HO276.out⟩, ⟨by (with_reducible repeat (first | apply Kd.V_alloc | apply Kd.V_drewN | apply Kd.V_drew)); exact Kd.V_mono HO266.out (fun _ hk => ⟨hk.1.1, ⟨hk.2, hk.1.2.2⟩⟩)⟩, ⟨by (with_reducible repeat (first | apply Kd.V_alloc | apply Kd.V_drewN | apply Kd.V_drew)); exact Kd.V_mono HO_261001.out (fun _ hk => ⟨hk.1.1, ⟨hk.2, hk.1.2.2⟩⟩)⟩, ⟨by (with_reducible repeat (first | refine blk_drewN ?_ _ | refine blk_drew ?_ | refine blk_alloc ?_ _)); exact BK260.out⟩, ⟨by repeat (first | (with_reducible first | exact HB.out | apply below_alloc | apply pw_below_drewN | apply below_drew1 | refine below_set ?_ GE260.out) | exact HB.out)⟩⟩
     ·rw [if_neg c16] at H
      exact absurd H (by simp)
   ·rw [if_neg c4] at H
    have c4b0 : decide (0 < (x4_1.length : Int)) = false := decide_eq_false c4
    have c4b1 : decide (0 < x4_1.length) = false := decide_eq_false (by omega)
    clear c4
    by_cases c24 : (x3_1.length : Int) = 0
    ·rw [if_pos c24] at H
     have c24b0 : ((x3_1.length : Int) == 0) = true := beq_iff_eq.mpr c24
     have c24b1 : ((x3_1.length : Int) != 0) = false := bne_eq_false_iff_eq.mpr c24
     clear c24
     obtain rfl := Option.some.inj H
     obtain ⟨Ao25, co25, eo25⟩ := Kd.V_slice HO_4.out
     subst eo25
     obtain ⟨Ao26, co26, eo26⟩ := Kd.R_slice HO_3.out
     subst eo26
     go_wp2
     go_ret
     exact ⟨by first | rfl | (simp [errW_none, errW_some] <;> rfl) | (simp [*, errW_none, errW_some] <;> rfl), by repeat (first | (with_reducible first | exact HB.out | apply below_alloc | apply pw_below_drewN | apply below_drew1 | refine below_set ?_ GE260.out) | exact HB.out)⟩
    ·rw [if_neg c24] at H
     have c24b0 : ((x3_1.length : Int) == 0) = false := beq_eq_false_iff_ne.mpr c24
     have c24b1 : ((x3_1.length : Int) != 0) = true := bne_iff_ne.mpr c24
     have c24b2 : ¬ (x3_1 = []) := fun h_ => c24 (by rw [h_]; rfl)
     have HC27 := Aside0.mk H
     clear H
     obtain ⟨Ao28, co28, eo28⟩ := Kd.V_slice HO_4.out
     subst eo28
     obtain ⟨Ao29, co29, eo29⟩ := Kd.R_slice HO_3.out
     subst eo29
     have hcz30_0 : wr.cell? ⟨gb260, 0, none⟩ = some (.bool a0_0) := (blk_cell BK260.out 0).trans rfl
     have hcz30_1 : wr.cell? ⟨gb260, 1, none⟩ = some (.slice A0_1 l0_1.length c0_1) := (blk_cell BK260.out 1).trans rfl
     have hfz30_0 := blk_frozen BK260.out 0
     have hfz30_1 := blk_frozen BK260.out 1
     go_upto_if 37 with (fail)
     go_cut [3] (fun v3 wc => ∃ (kq : Nat) (x3_26 : List Int), Aside0 (swageref02_Text.j1 kq x3_26 = some r) ∧ Aside0 (kq ≤ k1) ∧ Aside0 (Kd.R (Kd.int .u8) 5 wc w.heap.size (fun k_ => (w.heap.size ≤ k_)) v3 x3_26) ∧ Aside0 (Kd.V (Kd.int .u32) 76 wc w.heap.size (fun k_ => (P0_1_ k_ ∨ w.heap.size ≤ k_) ∧ some k_ ≠ (v3 : Value).ownBlock ∧ k_ ≠ gb260) (.slice A0_1 l0_1.length c0_1) l0_1) ∧ Aside0 (wc.heap[gb260]? = some (.cells #[.bool a0_0, (.slice A0_1 l0_1.length c0_1)] 68 (0, 0))) ∧ Aside0 (Below w.heap.size w wc))
     case first =>
      have H := HC27.out
      clear HC27
      by_cases c31 : a0_0 = true
      ·subst c31
       have H1 : (if x3_1.length < 140737488355328 then (swageref02_Text.j1 k1 (x3_1 ++ [45])) else (none)) = some r := by rw [if_pos rfl] at H; exact H
       clear H
       have H := H1
       clear H1
       by_cases c32 : x3_1.length < 140737488355328
       ·rw [if_pos c32] at H
        have LMc32 := Aside0.mk c32
        clear c32
        obtain ⟨y277, hy277⟩ : ∃ y_ : List Int, y_ = (x3_1 ++ [45]) := ⟨_, rfl⟩
        replace H : (swageref02_Text.j1 k1 y277) = some r := by first | (rw [hy277]; with_reducible exact H) | (have H2_ := (Option.bind_some _ _).symm.trans H; rw [hy277]; with_reducible exact H2_) | (have H2_ := (Option.bind_some _ _).symm.trans H; with_reducible exact H2_) | with_reducible exact H | (rw [hy277]; exact H) | exact H
        have Ny277 := Aside0.mk hy277
        clear hy277
        have H' := Aside0.mk H
        clear H
        go_wp2_with (first | ((with_reducible refine gate_builtin (b := .append) (xs := #[.tmp 38, .tmp 39]) rfl ?_); at_builtin; refine Kd.R_append (Kd.int .u8) (w0 := w) w.heap.size rfl (.tmp 38) (.tmp 39) 89 5 (.int .u8 0) 1 rfl Tryd.underlying89 info5 rfl (by decide) (by omega) (.slice Ao29 x3_1.length co29) x3_1 45 [.int .u8 45] (fun k_ => (w.heap.size ≤ k_)) (fun _ => False) rfl rfl ?aP (fun _ hk => hk.elim) ?aF ?aO ?aB ?aS ?aL ?_; (case aP => exact rfl); (case aB => exact (by repeat (first | (with_reducible first | exact HB.out | apply below_alloc | apply pw_below_drewN | apply below_drew1 | refine below_set ?_ GE260.out) | exact HB.out))); (case aF => exact (fun k_ hk => (Nat.le_trans (below_size (by repeat (first | (with_reducible first | exact HB.out | apply below_alloc | apply pw_below_drewN | apply below_drew1 | refine below_set ?_ GE260.out) | exact HB.out))) hk))); (case aO => exact (lR HO_3)); (case aS => exact (below_size (by repeat (first | (with_reducible first | exact HB.out | apply below_alloc | apply pw_below_drewN | apply below_drew1 | refine below_set ?_ GE260.out) | exact HB.out)))); (case aL => have := LMc32.out; omega); intro v278 w33 ho hb hg hat; rw [← Ny277.out] at ho; have n0_ := Aside0.mk (Kd.V_afterv (ok := (fun k_ => (P0_1_ k_ ∨ w.heap.size ≤ k_) ∧ k_ ≠ gb260)) (by (with_reducible repeat (first | apply Kd.V_alloc | apply Kd.V_drewN | apply Kd.V_drew)); exact Kd.V_mono HO_4.out (fun _ hk => ⟨⟨hk.1, hk.2.2⟩, hk.2.1⟩)) hg hat); have n1_ := Aside0.mk (Kd.V_afterv (ok := (fun k_ => (P0_1_ k_ ∨ w.heap.size ≤ k_) ∧ k_ ≠ gb260)) (by (with_reducible repeat (first | apply Kd.V_alloc | apply Kd.V_drewN | apply Kd.V_drew)); exact Kd.V_mono HO_261001.out (fun _ hk => ⟨⟨hk.1, hk.2.2⟩, hk.2.1⟩)) hg hat); have n2_ := Aside0.mk (blk_grown (g := gb260) (o := .cells #[.bool true, .slice A0_1 l0_1.length c0_1] 68 (0, 0)) (lK BK260) hg (Kd.R_ne HO_3.out BK260.out (by decide))); have n3_ := Aside0.mk (hb); have n4_ := Aside0.mk (ho); clear HO_4 HO_261001; clear BK260; clear HB HO_3; have HO_4 := n0_; have HO_261001 := n1_; have BK260 := n2_; have HB := n3_; have HO279 := n4_; clear n0_ n1_ n2_ n3_ n4_; clear ho hb hg hat))
        go_meet
        case rel => exact ⟨_, (y277), H', ⟨by have := HK1.out; first | omega | exact Nat.le_refl _⟩, ⟨by (with_reducible repeat (first | apply Kd.R_alloc | apply Kd.R_drewN | apply Kd.R_drew)); exact HO279.out⟩, ⟨by (with_reducible repeat (first | apply Kd.V_alloc | apply Kd.V_drewN | apply Kd.V_drew)); exact Kd.V_mono HO_261001.out (fun _ hk => ⟨hk.1.1, ⟨hk.2, hk.1.2⟩⟩)⟩, ⟨by (with_reducible repeat (first | refine blk_drewN ?_ _ | refine blk_drew ?_ | refine blk_alloc ?_ _)); exact BK260.out⟩, ⟨by repeat (first | (with_reducible first | exact HB.out | apply below_alloc | apply pw_below_drewN | apply below_drew1 | refine below_set ?_ GE260.out) | exact HB.out)⟩⟩
       ·rw [if_neg c32] at H
        exact absurd H (by simp)
      ·replace c31 := Bool.eq_false_iff.mpr c31
       subst c31
       have H1 : (swageref02_Text.j1 k1 x3_1) = some r := by rw [if_neg (show ¬ (false = true) by decide)] at H; exact H
       clear H
       have H := H1
       clear H1
       have H' := Aside0.mk H
       clear H
       go_wp2
       go_meet
       case rel => exact ⟨_, (x3_1), H', ⟨by have := HK1.out; first | omega | exact Nat.le_refl _⟩, ⟨by (with_reducible repeat (first | apply Kd.R_alloc | apply Kd.R_drewN | apply Kd.R_drew)); exact HO_3.out⟩, ⟨by (with_reducible repeat (first | apply Kd.V_alloc | apply Kd.V_drewN | apply Kd.V_drew)); exact HO_261001.out⟩, ⟨by (with_reducible repeat (first | refine blk_drewN ?_ _ | refine blk_drew ?_ | refine blk_alloc ?_ _)); exact BK260.out⟩, ⟨by repeat (first | (with_reducible first | exact HB.out | apply below_alloc | apply pw_below_drewN | apply below_drew1 | refine below_set ?_ GE260.out) | exact HB.out)⟩⟩
     case rest =>
      clear HC27
      try clear c4
      try clear c24
      obtain ⟨kq, x3_26, HA, HJ26, HO_3, HO_261001, BK260, HB⟩ := hcut
      cases kq with
      | zero => exact absurd HA.out (by simp [swageref02_Text.j1])
      | succ kj26 =>
       have H := HA.out
       clear HA
       simp only [swageref02_Text.j1] at H
       have H' := Aside0.mk H
       clear H
       go_wp2
       go_loopg [8] kj26 (fun kq v8 w' => ∃ (x3_3 : List Int) (x8_3 : Int), v8 = .int .i64 x8_3 ∧ Aside0 (swageref02_Text.l1 kq x3_3 x8_3 = some r) ∧ Aside0 (kq ≤ kj26) ∧ Aside0 (Kd.R (Kd.int .u8) 5 w' w.heap.size (fun k_ => (w.heap.size ≤ k_)) u3 x3_3) ∧ Aside0 (Kd.V (Kd.int .u32) 76 w' w.heap.size (fun k_ => (P0_1_ k_ ∨ w.heap.size ≤ k_) ∧ some k_ ≠ (u3 : Value).ownBlock ∧ k_ ≠ gb260) (.slice A0_1 l0_1.length c0_1) l0_1) ∧ Aside0 (w'.heap[gb260]? = some (.cells #[.bool a0_0, (.slice A0_1 l0_1.length c0_1)] 68 (0, 0))) ∧ Aside0 (Below w.heap.size w w'))
       case atStart => exact ⟨(x3_26), (0), (by first | rfl | (simp; done) | (simp [*]; done)), H', ⟨Nat.le_refl _⟩, ⟨by (with_reducible repeat (first | apply Kd.R_alloc | apply Kd.R_drewN | apply Kd.R_drew)); exact HO_3.out⟩, ⟨by (with_reducible repeat (first | apply Kd.V_alloc | apply Kd.V_drewN | apply Kd.V_drew)); exact HO_261001.out⟩, ⟨by (with_reducible repeat (first | refine blk_drewN ?_ _ | refine blk_drew ?_ | refine blk_alloc ?_ _)); exact BK260.out⟩, ⟨by repeat (first | (with_reducible first | exact HB.out | apply below_alloc | apply pw_below_drewN | apply below_drew1 | refine below_set ?_ GE260.out) | exact HB.out)⟩⟩
       case round =>
        clear H'
        try clear c4
        try clear c24
        obtain ⟨x3_3, x8_3, rfl, HA, HK3, HO_3, HO_261001, BK260, HB⟩ := hrel
        cases gk with
        | zero => exact absurd HA.out (by simp [swageref02_Text.l1])
        | succ k3 =>
         have H := HA.out
         clear HA
         simp only [swageref02_Text.l1] at H
         by_cases c34 : x8_3 < (wrap64 ((x3_3.length : Int) / 2))
         ·rw [if_pos c34] at H
          have c34b0 : decide (x8_3 < (wrap64 ((x3_3.length : Int) / 2))) = true := decide_eq_true c34
          clear c34
          obtain ⟨ji35, hji35⟩ : ∃ j_ : Int, (wrap64 ((wrap64 ((x3_3.length : Int) - 1)) - x8_3)) = j_ := ⟨_, rfl⟩
          replace H : (if 0 ≤ (ji35) then (if (ji35) < (x3_3.length : Int) then (if 0 ≤ x8_3 then (if x8_3 < (x3_3.length : Int) then (swageref02_Text.l1 k3 ((x3_3.set (x8_3 : Int).toNat (rd x3_3 (ji35))).set ((ji35) : Int).toNat (rd x3_3 x8_3)) (wrap64 (x8_3 + 1))) else (none)) else (none)) else (none)) else (none)) = some r := by first | (rw [hji35] at H; exact H) | (simp only [hji35] at H ⊢; exact H)
          have hji35w : (IntKind.i64.wrap ((wrap64 ((x3_3.length : Int) - 1)) - x8_3)) = ji35 := (i64_w _).trans hji35
          by_cases c36 : 0 ≤ (ji35)
          ·rw [if_pos c36] at H
           have c36b0 : decide (0 ≤ (ji35)) = true := decide_eq_true c36
           clear c36
           by_cases c37 : (ji35) < (x3_3.length : Int)
           ·rw [if_pos c37] at H
            have c37b0 : decide ((ji35) < (x3_3.length : Int)) = true := decide_eq_true c37
            clear c37
            by_cases c38 : 0 ≤ x8_3
            ·rw [if_pos c38] at H
             have c38b0 : decide (0 ≤ x8_3) = true := decide_eq_true c38
             clear c38
             by_cases c39 : x8_3 < (x3_3.length : Int)
             ·rw [if_pos c39] at H
              have c39b0 : decide (x8_3 < (x3_3.length : Int)) = true := decide_eq_true c39
              clear c39
              obtain ⟨y282, hy282⟩ : ∃ y_ : List Int, y_ = (x3_3.set (x8_3 : Int).toNat (rd x3_3 (ji35))) := ⟨_, rfl⟩
              replace H : (swageref02_Text.l1 k3 (y282.set ((ji35) : Int).toNat (rd x3_3 x8_3)) (wrap64 (x8_3 + 1))) = some r := by first | (rw [hy282]; with_reducible exact H) | (have H2_ := (Option.bind_some _ _).symm.trans H; rw [hy282]; with_reducible exact H2_) | (have H2_ := (Option.bind_some _ _).symm.trans H; with_reducible exact H2_) | with_reducible exact H | (rw [hy282]; exact H) | exact H
              have Ny282 := Aside0.mk hy282
              clear hy282
              obtain ⟨y283, hy283⟩ : ∃ y_ : List Int, y_ = (y282.set ((ji35) : Int).toNat (rd x3_3 x8_3)) := ⟨_, rfl⟩
              replace H : (swageref02_Text.l1 k3 y283 (wrap64 (x8_3 + 1))) = some r := by first | (rw [hy283]; with_reducible exact H) | (have H2_ := (Option.bind_some _ _).symm.trans H; rw [hy283]; with_reducible exact H2_) | (have H2_ := (Option.bind_some _ _).symm.trans H; with_reducible exact H2_) | with_reducible exact H | (rw [hy283]; exact H) | exact H
              have Ny283 := Aside0.mk hy283
              clear hy283
              have H' := Aside0.mk H
              clear H
              obtain ⟨Ao42, co42, eo42⟩ := Kd.R_slice HO_3.out
              subst eo42
              try go_wp2
              have n0_ := Aside0.mk (Kd.R_drew HO_3.out)
              have n1_ := Aside0.mk (Kd.V_drew HO_261001.out)
              have n2_ := Aside0.mk (blk_drew BK260.out)
              have n3_ := Aside0.mk (below_drew1 HB.out)
              clear HO_3
              clear HO_261001
              clear BK260
              clear HB
              have HO_3 := n0_
              have HO_261001 := n1_
              have BK260 := n2_
              have HB := n3_
              clear n0_ n1_ n2_ n3_
              have p280 : 0 ≤ ((ji35) : Int) := of_decide_eq_true (by first | (with_reducible assumption) | assumption)
              have q280 : (ji35) < (x3_3.length : Int) := of_decide_eq_true (by first | (with_reducible assumption) | assumption)
              obtain ⟨ad280, e280, hx280_0⟩ := Kd.at_int (Kd.R_reads' HO_3.out).2.2 (ji35) p280 q280
              cases e280
              replace p280 := eq_true p280
              replace q280 := eq_true q280
              have p281 : 0 ≤ (x8_3 : Int) := of_decide_eq_true (by first | (with_reducible assumption) | assumption)
              have q281 : x8_3 < (x3_3.length : Int) := of_decide_eq_true (by first | (with_reducible assumption) | assumption)
              obtain ⟨ad281, e281, hx281_0⟩ := Kd.at_int (Kd.R_reads' HO_3.out).2.2 x8_3 p281 q281
              obtain rfl : ad280 = ad281 := (by injection e281)
              replace p281 := eq_true p281
              replace q281 := eq_true q281
              have p40 : 0 ≤ (x8_3 : Int) := of_decide_eq_true (by first | (with_reducible assumption) | assumption)
              have q40 : (x8_3 : Int) < ((x3_3.length : Int) : Int) := of_decide_eq_true (by first | (with_reducible assumption) | assumption)
              obtain ⟨go40, co40, eo40, gb40, gl40, cl40, HG40⟩ := Kd.R_form HO_3.out (by omega)
              (first | cases eo40 | (injection eo40 with ea_ en_ ec_; (first | subst ea_ | (injection ea_ with ea_; subst ea_)); subst ec_; clear en_))
              have GB40 := Aside0.mk gb40
              have GG40 := Aside0.mk HG40
              clear gb40 gl40 HG40
              (first | simp only [add_plain] at hx280_0 | skip)
              (first | simp only [add_plain] at hx281_0 | skip)
              obtain ⟨hx40_0, hf40_0⟩ := Kd.R_celln 0 HO_3.out (x8_3 : Int) p40 q40
              replace p40 := eq_true p40
              replace q40 := eq_true q40
              have HP44 := Kd.R_putn HO_3.out (x8_3 : Int) (rd x3_3 (ji35))
              rw [← Ny282.out] at HP44
              have HQ44 := Aside0.mk HP44
              clear HP44
              have p41 : 0 ≤ ((ji35) : Int) := of_decide_eq_true (by first | (with_reducible assumption) | assumption)
              have q41 : ((ji35) : Int) < ((x3_3.length : Int) : Int) := of_decide_eq_true (by first | (with_reducible assumption) | assumption)
              obtain ⟨hx41_0, hf41_0⟩ := Kd.R_celln 0 HQ44.out ((ji35) : Int) p41 q41
              replace p41 := eq_true p41
              replace q41 := eq_true q41
              have HP45 := Kd.R_putn HQ44.out ((ji35) : Int) (rd x3_3 x8_3)
              rw [← Ny283.out] at HP45
              have HQ45 := Aside0.mk HP45
              clear HP45
              refine start_ (n := 24) (S := fun w' => w'.cell? ⟨go40, ((ji35)).toNat, none⟩ = some (.int .u8 (rd x3_3 (ji35))) ∧ w'.cell? ⟨go40, (x8_3).toNat, none⟩ = some (.int .u8 (rd x3_3 x8_3))) (ds := [21, 23]) #[false, false, false, false, false, false, false, false, false, false, false, false, false, false, false, false, false, false, false, false, false, false, false, false] (by kernel_rfl) rfl rfl ⟨hx280_0, hx281_0⟩ (fun hHeld => ?_); refine with_tabW swageref02_Text.tab17 swageref02_Text.bits17 (fun HT_ HW_ => ?_)
              generalize wr.drew = w43 at HO_3 HO_261001 BK260 HB GG40 HQ44 HQ45 hf40_0 hf41_0 hx280_0 hx281_0 hx40_0 hx41_0 hHeld ⊢
              refine pure_ (i := 0) (N := some 48) (v := ?_) (a' := ?_) #[true, false, false, false, false, false, false, false, false, false, false, false, false, false, false, false, false, false, false, false, false, false, false, false] rfl rfl (any_of HT_.out (by kernel_rfl)) (fun _ _ _ h => h) (Or.inl ⟨by rfl, ?_⟩) ?_ ?_
              rotate_left
              ·intro w'
               go_simp
               with_reducible rfl
              rotate_left
              ·simp only [Act.put, List.setIfInBounds_toArray, List.set_cons_zero, List.set_cons_succ, i64_w, i32_w]
               rfl
              refine pure_ (i := 1) (N := some 49) (v := ?_) (a' := ?_) #[true, true, false, false, false, false, false, false, false, false, false, false, false, false, false, false, false, false, false, false, false, false, false, false] rfl rfl (any_of HT_.out (by kernel_rfl)) (fun _ _ _ h => h) (Or.inl ⟨by rfl, ?_⟩) ?_ ?_
              rotate_left
              ·intro w'
               go_simp
               with_reducible rfl
              rotate_left
              ·simp only [Act.put, List.setIfInBounds_toArray, List.set_cons_zero, List.set_cons_succ, i64_w, i32_w]
               rfl
              refine pure_ (i := 2) (N := some 50) (v := ?_) (a' := ?_) #[true, true, true, false, false, false, false, false, false, false, false, false, false, false, false, false, false, false, false, false, false, false, false, false] rfl rfl (any_of HT_.out (by kernel_rfl)) (fun _ _ _ h => h) (Or.inl ⟨by rfl, ?_⟩) ?_ ?_
              rotate_left
              ·intro w'
               go_simp
               with_reducible rfl
              rotate_left
              ·simp only [Act.put, List.setIfInBounds_toArray, List.set_cons_zero, List.set_cons_succ, i64_w, i32_w]
               rfl
              refine pure_ (i := 3) (N := some 51) (v := ?_) (a' := ?_) #[true, true, true, true, false, false, false, false, false, false, false, false, false, false, false, false, false, false, false, false, false, false, false, false] rfl rfl (any_of HT_.out (by kernel_rfl)) (fun _ _ _ h => h) (Or.inl ⟨by rfl, ?_⟩) ?_ ?_
              rotate_left
              ·intro w'
               go_simp
               with_reducible rfl
              rotate_left
              ·simp only [Act.put, List.setIfInBounds_toArray, List.set_cons_zero, List.set_cons_succ, i64_w, i32_w]
               rfl
              refine pure_ (i := 4) (N := some 52) (v := ?_) (a' := ?_) #[true, true, true, true, true, false, false, false, false, false, false, false, false, false, false, false, false, false, false, false, false, false, false, false] rfl rfl (any_of HT_.out (by kernel_rfl)) (fun _ _ _ h => h) (Or.inl ⟨by rfl, ?_⟩) ?_ ?_
              rotate_left
              ·intro w'
               go_simp
               with_reducible rfl
              rotate_left
              ·simp only [Act.put, List.setIfInBounds_toArray, List.set_cons_zero, List.set_cons_succ, i64_w, i32_w]
               rfl
              refine pure_ (i := 5) (N := some 53) (v := ?_) (a' := ?_) #[true, true, true, true, true, true, false, false, false, false, false, false, false, false, false, false, false, false, false, false, false, false, false, false] rfl rfl (any_of HT_.out (by kernel_rfl)) (fun _ _ _ h => h) (Or.inl ⟨by rfl, ?_⟩) ?_ ?_
              rotate_left
              ·intro w'
               go_simp
               with_reducible rfl
              rotate_left
              ·simp only [Act.put, List.setIfInBounds_toArray, List.set_cons_zero, List.set_cons_succ, i64_w, i32_w]
               rfl
              refine pure_ (i := 6) (N := some 54) (v := ?_) (a' := ?_) #[true, true, true, true, true, true, true, false, false, false, false, false, false, false, false, false, false, false, false, false, false, false, false, false] rfl rfl (any_of HT_.out (by kernel_rfl)) (fun _ _ _ h => h) (Or.inl ⟨by rfl, ?_⟩) ?_ ?_
              rotate_left
              ·intro w'
               go_simp
               with_reducible rfl
              rotate_left
              ·simp only [Act.put, List.setIfInBounds_toArray, List.set_cons_zero, List.set_cons_succ, i64_w, i32_w]
               rfl
              refine pure_ (i := 7) (N := some 55) (v := ?_) (a' := ?_) #[true, true, true, true, true, true, true, true, false, false, false, false, false, false, false, false, false, false, false, false, false, false, false, false] rfl rfl (any_of HT_.out (by kernel_rfl)) (fun _ _ _ h => h) (Or.inl ⟨by rfl, ?_⟩) ?_ ?_
              rotate_left
              ·intro w'
               go_simp
               with_reducible rfl
              rotate_left
              ·simp only [Act.put, List.setIfInBounds_toArray, List.set_cons_zero, List.set_cons_succ, i64_w, i32_w]
               rfl
              refine pure_ (i := 8) (N := some 56) (v := ?_) (a' := ?_) #[true, true, true, true, true, true, true, true, true, false, false, false, false, false, false, false, false, false, false, false, false, false, false, false] rfl rfl (any_of HT_.out (by kernel_rfl)) (fun _ _ _ h => h) (Or.inl ⟨by rfl, ?_⟩) ?_ ?_
              rotate_left
              ·intro w'
               go_simp
               with_reducible rfl
              rotate_left
              ·simp only [Act.put, List.setIfInBounds_toArray, List.set_cons_zero, List.set_cons_succ, i64_w, i32_w]
               rfl
              refine pure_ (i := 9) (N := some 57) (v := ?_) (a' := ?_) #[true, true, true, true, true, true, true, true, true, true, false, false, false, false, false, false, false, false, false, false, false, false, false, false] rfl rfl (any_of HT_.out (by kernel_rfl)) (fun _ _ _ h => h) (Or.inl ⟨by rfl, ?_⟩) ?_ ?_
              rotate_left
              ·intro w'
               go_simp
               with_reducible rfl
              rotate_left
              ·simp only [Act.put, List.setIfInBounds_toArray, List.set_cons_zero, List.set_cons_succ, i64_w, i32_w]
               rfl
              refine pure_ (i := 10) (N := some 58) (v := ?_) (a' := ?_) #[true, true, true, true, true, true, true, true, true, true, true, false, false, false, false, false, false, false, false, false, false, false, false, false] rfl rfl (any_of HT_.out (by kernel_rfl)) (fun _ _ _ h => h) (Or.inl ⟨by rfl, ?_⟩) ?_ ?_
              rotate_left
              ·intro w'
               go_simp
               with_reducible rfl
              rotate_left
              ·simp only [Act.put, List.setIfInBounds_toArray, List.set_cons_zero, List.set_cons_succ, i64_w, i32_w]
               rfl
              refine pure_ (i := 11) (N := some 59) (v := ?_) (a' := ?_) #[true, true, true, true, true, true, true, true, true, true, true, true, false, false, false, false, false, false, false, false, false, false, false, false] rfl rfl (any_of HT_.out (by kernel_rfl)) (fun _ _ _ h => h) (Or.inl ⟨by rfl, ?_⟩) ?_ ?_
              rotate_left
              ·intro w'
               go_simp
               with_reducible rfl
              rotate_left
              ·simp only [Act.put, List.setIfInBounds_toArray, List.set_cons_zero, List.set_cons_succ, i64_w, i32_w]
               rfl
              refine pure_ (i := 12) (N := some 60) (v := ?_) (a' := ?_) #[true, true, true, true, true, true, true, true, true, true, true, true, true, false, false, false, false, false, false, false, false, false, false, false] rfl rfl (any_of HT_.out (by kernel_rfl)) (fun _ _ _ h => h) (Or.inl ⟨by rfl, ?_⟩) ?_ ?_
              rotate_left
              ·intro w'
               go_simp
               with_reducible rfl
              rotate_left
              ·simp only [Act.put, List.setIfInBounds_toArray, List.set_cons_zero, List.set_cons_succ, i64_w, i32_w]
               rfl
              refine pure_ (i := 13) (N := some 61) (v := ?_) (a' := ?_) #[true, true, true, true, true, true, true, true, true, true, true, true, true, true, false, false, false, false, false, false, false, false, false, false] rfl rfl (any_of HT_.out (by kernel_rfl)) (fun _ _ _ h => h) (Or.inl ⟨by rfl, ?_⟩) ?_ ?_
              rotate_left
              ·intro w'
               go_simp
               with_reducible rfl
              rotate_left
              ·simp only [Act.put, List.setIfInBounds_toArray, List.set_cons_zero, List.set_cons_succ, i64_w, i32_w]
               rfl
              refine pure_ (i := 14) (N := some 62) (v := ?_) (a' := ?_) #[true, true, true, true, true, true, true, true, true, true, true, true, true, true, true, false, false, false, false, false, false, false, false, false] rfl rfl (any_of HT_.out (by kernel_rfl)) (fun _ _ _ h => h) (Or.inl ⟨by rfl, ?_⟩) ?_ ?_
              rotate_left
              ·intro w'
               go_simp
               with_reducible rfl
              rotate_left
              ·simp only [Act.put, List.setIfInBounds_toArray, List.set_cons_zero, List.set_cons_succ, i64_w, i32_w]
               rfl
              refine pure_ (i := 16) (N := some 64) (v := ?_) (a' := ?_) #[true, true, true, true, true, true, true, true, true, true, true, true, true, true, true, false, true, false, false, false, false, false, false, false] rfl rfl (any_of HT_.out (by kernel_rfl)) (fun _ _ _ h => h) (Or.inl ⟨by rfl, ?_⟩) ?_ ?_
              rotate_left
              ·intro w'
               go_simp
               with_reducible rfl
              rotate_left
              ·simp only [Act.put, List.setIfInBounds_toArray, List.set_cons_zero, List.set_cons_succ, i64_w, i32_w]
               rfl
              refine pure_ (i := 17) (N := some 65) (v := ?_) (a' := ?_) #[true, true, true, true, true, true, true, true, true, true, true, true, true, true, true, false, true, true, false, false, false, false, false, false] rfl rfl (any_of HT_.out (by kernel_rfl)) (fun _ _ _ h => h) (Or.inl ⟨by rfl, ?_⟩) ?_ ?_
              rotate_left
              ·intro w'
               go_simp
               with_reducible rfl
              rotate_left
              ·simp only [Act.put, List.setIfInBounds_toArray, List.set_cons_zero, List.set_cons_succ, i64_w, i32_w]
               rfl
              refine pure_ (i := 18) (N := some 66) (v := ?_) (a' := ?_) #[true, true, true, true, true, true, true, true, true, true, true, true, true, true, true, false, true, true, true, false, false, false, false, false] rfl rfl (any_of HT_.out (by kernel_rfl)) (fun _ _ _ h => h) (Or.inl ⟨by rfl, ?_⟩) ?_ ?_
              rotate_left
              ·intro w'
               go_simp
               with_reducible rfl
              rotate_left
              ·simp only [Act.put, List.setIfInBounds_toArray, List.set_cons_zero, List.set_cons_succ, i64_w, i32_w]
               rfl
              refine take_ (i := 15) (N := some 63) (v := ?_) (a' := ?_) #[true, true, true, true, true, true, true, true, true, true, true, true, true, true, true, true, true, true, true, false, false, false, false, false] rfl rfl (take_ofW HT_.out HW_.out (by kernel_rfl)) (fun _ _ _ h => h) (Or.inl ⟨by rfl, ?_⟩) hHeld ?_ ?_
              rotate_left
              ·rintro w' ⟨s0, s1⟩
               go_simp
               with_reducible rfl
              rotate_left
              ·simp only [Act.put, List.setIfInBounds_toArray, List.set_cons_zero, List.set_cons_succ, i64_w, i32_w]
               rfl
              refine take_ (i := 19) (N := some 67) (v := ?_) (a' := ?_) #[true, true, true, true, true, true, true, true, true, true, true, true, true, true, true, true, true, true, true, true, false, false, false, false] rfl rfl (take_ofW HT_.out HW_.out (by kernel_rfl)) (fun _ _ _ h => h) (Or.inl ⟨by rfl, ?_⟩) hHeld ?_ ?_
              rotate_left
              ·rintro w' ⟨s0, s1⟩
               go_simp
               with_reducible rfl
              rotate_left
              ·simp only [Act.put, List.setIfInBounds_toArray, List.set_cons_zero, List.set_cons_succ, i64_w, i32_w]
               rfl
              refine pure_ (i := 20) (N := some 68) (v := ?_) (a' := ?_) #[true, true, true, true, true, true, true, true, true, true, true, true, true, true, true, true, true, true, true, true, true, false, false, false] rfl rfl (any_of HT_.out (by kernel_rfl)) (fun _ _ _ h => h) (Or.inl ⟨by rfl, ?_⟩) ?_ ?_
              rotate_left
              ·intro w'
               go_simp
               with_reducible rfl
              rotate_left
              ·simp only [Act.put, List.setIfInBounds_toArray, List.set_cons_zero, List.set_cons_succ, i64_w, i32_w]
               rfl
              refine last_ (i := 21) (N := none) #[true, true, true, true, true, true, true, true, true, true, true, true, true, true, true, true, true, true, true, true, true, true, false, false] rfl rfl (one_of HT_.out (by kernel_rfl)) (by decide) (fun K hK => ?_)
              refine skip_ (w1 := ?_) (by rfl) rfl ?_ ?_
              rotate_left
              ·go_simp
               rfl
              refine hK.out _ _ ?_
              clear hK K
              refine pure_ (i := 22) (N := some 69) (v := ?_) (a' := ?_) #[true, true, true, true, true, true, true, true, true, true, true, true, true, true, true, true, true, true, true, true, true, true, true, false] rfl rfl (any_of HT_.out (by kernel_rfl)) (fun _ _ _ h => h) (Or.inl ⟨by rfl, ?_⟩) ?_ ?_
              rotate_left
              ·intro w'
               go_simp
               with_reducible rfl
              rotate_left
              ·simp only [Act.put, List.setIfInBounds_toArray, List.set_cons_zero, List.set_cons_succ, i64_w, i32_w]
               rfl
              refine last_ (i := 23) (N := none) #[true, true, true, true, true, true, true, true, true, true, true, true, true, true, true, true, true, true, true, true, true, true, true, true] rfl rfl (one_of HT_.out (by kernel_rfl)) (by decide) (fun K hK => ?_)
              refine skip_ (w1 := ?_) (by rfl) rfl ?_ ?_
              rotate_left
              ·go_simp
               rfl
              refine hK.out _ _ ?_
              clear hK K
              refine done_ (done_of HT_.out (by kernel_rfl)) ?_
              try go_wp2
              go_roundg k3
              case measure => have := HK1.out; have := HJ26.out; have := HK3.out; omega
              case rel => exact ⟨(y283), (wrap64 (x8_3 + 1)), (by first | rfl | (simp; done) | (simp [*]; done)), H', ⟨by have := HK1.out; have := HJ26.out; have := HK3.out; omega⟩, ⟨by (with_reducible repeat (first | apply Kd.R_alloc | apply Kd.R_drewN | apply Kd.R_drew)); exact HQ45.out⟩, ⟨by (with_reducible repeat (first | apply Kd.V_alloc | apply Kd.V_drewN | apply Kd.V_drew)); exact Kd.V_mono (Kd.V_far (p := ⟨go40, ((ji35) : Int).toNat, none⟩) (Kd.V_far (p := ⟨go40, (x8_3 : Int).toNat, none⟩) (Kd.V_mono HO_261001.out (fun k_ hk => (⟨hk, fun e_ => hk.2.1 (by rw [e_]; rfl)⟩ : _ ∧ k_ ≠ go40))) (fun _ hk => hk.2) (.int .u8 (rd x3_3 (ji35)))) (fun _ hk => hk.2) (.int .u8 (rd x3_3 x8_3))) (fun _ hk => ⟨hk.1.1, ⟨hk.1.2.1, hk.1.2.2⟩⟩)⟩, ⟨by (with_reducible repeat (first | refine blk_drewN ?_ _ | refine blk_drew ?_ | refine blk_alloc ?_ _)); refine blk_far ?_ (by have h_ := Kd.R_ne HO_3.out BK260.out (by decide); intro e_; exact h_ (by rw [e_]; rfl)) _; (with_reducible repeat (first | refine blk_drewN ?_ _ | refine blk_drew ?_ | refine blk_alloc ?_ _)); refine blk_far ?_ (by have h_ := Kd.R_ne HO_3.out BK260.out (by decide); intro e_; exact h_ (by rw [e_]; rfl)) _; (with_reducible repeat (first | refine blk_drewN ?_ _ | refine blk_drew ?_ | refine blk_alloc ?_ _)); exact BK260.out⟩, ⟨by repeat (first | (with_reducible first | exact HB.out | apply below_alloc | apply pw_below_drewN | apply below_drew1 | refine below_set ?_ GB40.out | refine below_set ?_ GB40.out | refine below_set ?_ GE260.out) | exact HB.out)⟩⟩
             ·rw [if_neg c39] at H
              exact absurd H (by simp)
            ·rw [if_neg c38] at H
             exact absurd H (by simp)
           ·rw [if_neg c37] at H
            exact absurd H (by simp)
          ·rw [if_neg c36] at H
           exact absurd H (by simp)
         ·rw [if_neg c34] at H
          have c34b0 : decide (x8_3 < (wrap64 ((x3_3.length : Int) / 2))) = false := decide_eq_false c34
          clear c34
          obtain rfl := Option.some.inj H
          obtain ⟨Ao46, co46, eo46⟩ := Kd.R_slice HO_3.out
          subst eo46
          have hcv47 := own_string (P := Tryd.prog) Tryd.underlying89 Tryd.underlying5 Tryd.underlying9 (Kd.own_of_R HO_3.out)
          go_wp2
          go_ret
          exact ⟨by first | rfl | (simp [errW_none, errW_some] <;> rfl) | (simp [*, errW_none, errW_some] <;> rfl), by repeat (first | (with_reducible first | exact HB.out | apply below_alloc | apply pw_below_drewN | apply below_drew1 | refine below_set ?_ GE260.out) | exact HB.out)⟩

end Go.Proofs.YtakmkhokbcjapaaDoor.XA
end

section
namespace Go.Proofs.YtakmkhokbcjapaaDoor.XA
open Go.Proofs.YtakmkhokbcjapaaDoor.Lift Go.RowKit Go.Proofs.YtakmkhokbcjapaaDoorW.PrintWords Go.Proofs.YtakmkhokbcjapaaDoorW.PrintLast Go.Proofs.YtakmkhokbcjapaaDoorW.PrintMore
attribute [local go_sem] max2_int min2_int max_two min_two max_three min_three max_four min_four   -- for this text's walks alone
set_option linter.unusedVariables false
set_option linter.unusedSimpArgs false

/-! ### swagelaw21_is_1: function 32 -/
def swagelaw21_is_1.f (k : Nat) (a0_0 : Bool) (l0_1 : List Int) (a1_0 : Bool) (l1_1 : List Int) : Option (Bool) := (integer_Int_Text.f k a0_0 l0_1).bind fun t286 => ((swageref02_Text.f k a1_0 l1_1).bind fun t287 => (some (t286.toList == t287.toList)))
theorem swagelaw21_is_1.mono : ∀ a0 a1 a2 a3 k, LeO (swagelaw21_is_1.f k a0 a1 a2 a3) (swagelaw21_is_1.f (k + 1) a0 a1 a2 a3) := by
 intro a0 a1 a2 a3 k
 unfold swagelaw21_is_1.f
 repeat' first
   | (with_reducible exact integer_Int_Text.mono _ _ _)
   | (with_reducible exact swageref02_Text.mono _ _ _)
   | (with_reducible exact LeO.refl _)
   | (with_reducible exact LeO.none _)
   | (with_reducible refine LeO.ite ?_ ?_)
   | (with_reducible refine LeO.bind ?_ (fun _ => ?_))
   | exact integer_Int_Text.mono _ _ _
   | exact swageref02_Text.mono _ _ _
   | exact LeO.none _
   | refine LeO.ite ?_ ?_
   | refine LeO.bind ?_ (fun _ => ?_)
set_option maxHeartbeats 8000000 in
set_option maxRecDepth 100000 in
theorem swagelaw21_is_1.calls (k : Nat) (a0_0 : Bool) (A0_1 : Option Addr) (c0_1 : Nat) (l0_1 : List Int) (a1_0 : Bool) (A1_1 : Option Addr) (c1_1 : Nat) (l1_1 : List Int) (r : Bool) (w : World) (hr0_1 : Kd.C (Kd.int .u32) w A0_1 l0_1.length l0_1) (hc0_1 : l0_1.length ≤ c0_1) (hr1_1 : Kd.C (Kd.int .u32) w A1_1 l1_1.length l1_1) (hc1_1 : l1_1.length ≤ c1_1) (h : swagelaw21_is_1.f k a0_0 l0_1 a1_0 l1_1 = some r) :
  Calls Tryd.prog 32 #[.agg #[.bool a0_0, .slice A0_1 l0_1.length c0_1], .agg #[.bool a1_0, .slice A1_1 l1_1.length c1_1]] w fun e w' => e = .returned (.bool r) ∧ Below w.heap.size w w' := by
 have hu39 := Tryd.underlying39
 have hu68 := Tryd.underlying68
 have HR0_1 := Aside0.mk hr0_1
 have HC0_1 := Aside0.mk hc0_1
 clear hr0_1 hc0_1
 have HR1_1 := Aside0.mk hr1_1
 have HC1_1 := Aside0.mk hc1_1
 clear hr1_1 hc1_1
 have HB := Aside0.mk (Below.refl w.heap.size w)
 have H : ((integer_Int_Text.f k a0_0 l0_1).bind fun t286 => ((swageref02_Text.f k a1_0 l1_1).bind fun t287 => (some (t286.toList == t287.toList)))) = some r := h
 clear h
 replace H := Option.bind_eq_some_iff.mp H
 obtain ⟨t286, A30, H⟩ := H
 replace H : ((swageref02_Text.f k a1_0 l1_1).bind fun t287 => (some (t286.toList == t287.toList))) = some r := H
 have A3 := Aside0.mk A30
 clear A30
 replace H := Option.bind_eq_some_iff.mp H
 obtain ⟨t287, A40, H⟩ := H
 replace H : (some (t286.toList == t287.toList)) = some r := H
 have A4 := Aside0.mk A40
 clear A40
 obtain rfl := Option.some.inj H
 go_enter Tryd.func32, Tryd.ntmps32
 try go_wp2_with (first | ((with_reducible refine gate_dst (N := 2) rfl ?_); refine box_event ?hg (N := 2) ?hd (cs := #[.bool a0_0, .slice A0_1 l0_1.length c0_1]) (t := 39) ?hr ?_; (case hd => rfl); (case hg => rfl); (case hr => first | (go_simp; done) | (go_simp; rfl)); intro gb284 hg w5 hbox hb; have n0_ := Aside0.mk (below_step (lB HB) hb); have n1_ := Aside0.mk (hbox); have n2_ := Aside0.mk ((by rw [hg]; exact (below_size (lB HB)) : w.heap.size ≤ gb284)); have n3_ := Aside0.mk ((by rw [hg]; exact (below_size (lB HB)) : w.heap.size ≤ gb284)); clear HB; have HB := n0_; have BK284 := n1_; have GW284 := n2_; have GE284 := n3_; clear n0_ n1_ n2_ n3_; clear hb hbox hg) | ((with_reducible refine gate_dst (N := 3) rfl ?_); refine box_event ?hg (N := 3) ?hd (cs := #[.bool a1_0, .slice A1_1 l1_1.length c1_1]) (t := 68) ?hr ?_; (case hd => rfl); (case hg => rfl); (case hr => first | (go_simp; done) | (go_simp; rfl)); intro gb285 hg w6 hbox hb; have n0_ := Aside0.mk (blk_below (g := gb284) (o := .cells #[.bool a0_0, .slice A0_1 l0_1.length c0_1] 39 (0, 0)) (lK BK284) hb); have n1_ := Aside0.mk (below_step (by repeat (first | (with_reducible first | exact HB.out | apply below_alloc | apply pw_below_drewN | apply below_drew1 | refine below_set ?_ GE284.out) | exact HB.out)) hb); have n2_ := Aside0.mk (hbox); have n3_ := Aside0.mk ((by rw [hg]; exact (below_size (by repeat (first | (with_reducible first | exact HB.out | apply below_alloc | apply pw_below_drewN | apply below_drew1 | refine below_set ?_ GE284.out) | exact HB.out))) : w.heap.size ≤ gb285)); have n4_ := Aside0.mk ((by rw [hg]; exact (below_size (by repeat (first | (with_reducible first | exact HB.out | apply below_alloc | apply pw_below_drewN | apply below_drew1 | refine below_set ?_ GE284.out) | exact HB.out))) : w.heap.size ≤ gb285)); have n5_ := Aside0.mk ((by rw [hg]; exact Nat.ne_of_lt (blk_lt (g := gb284) (o := .cells #[.bool a0_0, .slice A0_1 l0_1.length c0_1] 39 (0, 0)) (lK BK284)) : gb284 ≠ gb285)); have n6_ := Aside0.mk ((by rw [hg]; exact Nat.ne_of_gt (blk_lt (g := gb284) (o := .cells #[.bool a0_0, .slice A0_1 l0_1.length c0_1] 39 (0, 0)) (lK BK284)) : gb285 ≠ gb284)); clear BK284; clear HB; have BK284 := n0_; have HB := n1_; have BK285 := n2_; have GW285 := n3_; have GE285 := n4_; have NB284_285 := n5_; have NB285_284 := n6_; clear n0_ n1_ n2_ n3_ n4_ n5_ n6_; clear hb hbox hg))
 have n0_ := Aside0.mk (blk_drew BK284.out)
 have n1_ := Aside0.mk (blk_drew BK285.out)
 have n2_ := Aside0.mk (below_drew1 HB.out)
 clear BK284
 clear BK285
 clear HB
 have BK284 := n0_
 have BK285 := n1_
 have HB := n2_
 clear n0_ n1_ n2_
 refine start_ (n := 6) (S := fun w' => w'.cell? ⟨gb284, 0, none⟩ = some (.bool a0_0) ∧ w'.cell? ⟨gb284, 1, none⟩ = some (.slice A0_1 l0_1.length c0_1) ∧ w'.cell? ⟨gb285, 0, none⟩ = some (.bool a1_0) ∧ w'.cell? ⟨gb285, 1, none⟩ = some (.slice A1_1 l1_1.length c1_1)) (ds := []) #[false, false, false, false, false, false] (by kernel_rfl) rfl rfl ⟨(blk_cell BK284.out 0).trans rfl, (blk_cell BK284.out 1).trans rfl, (blk_cell BK285.out 0).trans rfl, (blk_cell BK285.out 1).trans rfl⟩ (fun hHeld => ?_)
 generalize w6.drew = w7 at BK284 BK285 HB hHeld ⊢
 refine take_ (i := 0) (N := some 5) (v := ?_) (a' := ?_) #[true, false, false, false, false, false] rfl rfl (by kernel_rfl) (fun _ _ _ h => h) (Or.inl ⟨by rfl, ?_⟩) hHeld ?_ ?_
 rotate_left
 ·rintro w' ⟨s0, s1, s2, s3⟩
  go_simp
  with_reducible rfl
 rotate_left
 ·simp only [Act.put, List.setIfInBounds_toArray, List.set_cons_zero, List.set_cons_succ, i64_w, i32_w]
  rfl
 refine take_ (i := 2) (N := some 7) (v := ?_) (a' := ?_) #[true, false, true, false, false, false] rfl rfl (by kernel_rfl) (fun _ _ _ h => h) (Or.inl ⟨by rfl, ?_⟩) hHeld ?_ ?_
 rotate_left
 ·rintro w' ⟨s0, s1, s2, s3⟩
  go_simp
  with_reducible rfl
 rotate_left
 ·simp only [Act.put, List.setIfInBounds_toArray, List.set_cons_zero, List.set_cons_succ, i64_w, i32_w]
  rfl
 refine one_ (i := 1) (N := some 6) #[true, true, true, false, false, false] rfl rfl (by kernel_rfl) (by decide) (fun K hK => ?_)
 refine goes_ Tryd.func33 (by kernel_rfl) rfl #[.agg #[.bool a0_0, .slice A0_1 l0_1.length c0_1]] (by rfl) rfl rfl (by (try simp only [List.map_toArray, List.map_cons, List.map_nil]); first | done | rfl | (simp only [List.length_drop, List.length_take]; rfl)) ?_
 with_reducible refine (integer_Int_Text.calls k a0_0 _ _ l0_1 t286 _ ?side1 ?side2 A3.out).mono ?_
 (case side1 => repeat (first | exact (Kd.C_below HR0_1.out HB.out) | (with_reducible refine Kd.C_alloc ?_ _) | (with_reducible refine Kd.C_drewN ?_ _) | (with_reducible refine Kd.C_drew ?_)))
 (case side2 => exact HC0_1.out)
 rintro e w8 ⟨rfl, hb⟩
 refine ⟨_, rfl, ?_⟩
 have n0_ := Aside0.mk (blk_below (g := gb284) (o := .cells #[.bool a0_0, .slice A0_1 l0_1.length c0_1] 39 (0, 0)) (lK BK284) hb)
 have n1_ := Aside0.mk (blk_below (g := gb285) (o := .cells #[.bool a1_0, .slice A1_1 l1_1.length c1_1] 68 (0, 0)) (lK BK285) hb)
 have n2_ := Aside0.mk (below_step (by repeat (first | (with_reducible first | exact HB.out | apply below_alloc | apply pw_below_drewN | apply below_drew1 | refine below_set ?_ GE284.out | refine below_set ?_ GE285.out) | exact HB.out)) hb)
 clear BK284
 clear BK285
 clear HB
 have BK284 := n0_
 have BK285 := n1_
 have HB := n2_
 clear n0_ n1_ n2_
 (try clear hb)
 (try clear hb2)
 (try clear hk)
 (try clear hi)
 refine hK.out _ _ ⟨(blk_cell BK284.out 0).trans rfl, (blk_cell BK284.out 1).trans rfl, (blk_cell BK285.out 0).trans rfl, (blk_cell BK285.out 1).trans rfl⟩ (fun hHeld => ?_)
 clear hK K
 refine norm_ (a' := ?_) ?_ ?_
 rotate_left
 ·show Act.put _ (some 6) _ = _
  simp only [Act.put, List.setIfInBounds_toArray, List.set_cons_zero, List.set_cons_succ, i64_w, i32_w]
  rfl
 refine one_ (i := 3) (N := some 8) #[true, true, true, true, false, false] rfl rfl (by kernel_rfl) (by decide) (fun K hK => ?_)
 refine goes_ Tryd.func34 (by kernel_rfl) rfl #[.agg #[.bool a1_0, .slice A1_1 l1_1.length c1_1]] (by rfl) rfl rfl (by (try simp only [List.map_toArray, List.map_cons, List.map_nil]); first | done | rfl | (simp only [List.length_drop, List.length_take]; rfl)) ?_
 with_reducible refine (swageref02_Text.calls k a1_0 (fun k_ => k_ < w.heap.size) _ _ l1_1 t287 _ ?side1 A4.out).mono ?_
 (case side1 => exact Kd.V_mk HC1_1.out (Kd.F_below (Kd.C_F (Kd.heap_int .u32) HR1_1.out) (by repeat (first | (with_reducible first | exact HB.out | apply below_alloc | apply pw_below_drewN | apply below_drew1 | refine below_set ?_ GE284.out | refine below_set ?_ GE285.out) | exact HB.out))))
 rintro e w9 ⟨rfl, hb⟩
 refine ⟨_, rfl, ?_⟩
 have n0_ := Aside0.mk (blk_below (g := gb284) (o := .cells #[.bool a0_0, .slice A0_1 l0_1.length c0_1] 39 (0, 0)) (lK BK284) hb)
 have n1_ := Aside0.mk (blk_below (g := gb285) (o := .cells #[.bool a1_0, .slice A1_1 l1_1.length c1_1] 68 (0, 0)) (lK BK285) hb)
 have n2_ := Aside0.mk (below_step (by repeat (first | (with_reducible first | exact HB.out | apply below_alloc | apply pw_below_drewN | apply below_drew1 | refine below_set ?_ GE284.out | refine below_set ?_ GE285.out) | exact HB.out)) hb)
 clear BK284
 clear BK285
 clear HB
 have BK284 := n0_
 have BK285 := n1_
 have HB := n2_
 clear n0_ n1_ n2_
 (try clear hb)
 (try clear hb2)
 (try clear hk)
 (try clear hi)
 refine hK.out _ _ ⟨(blk_cell BK284.out 0).trans rfl, (blk_cell BK284.out 1).trans rfl, (blk_cell BK285.out 0).trans rfl, (blk_cell BK285.out 1).trans rfl⟩ (fun hHeld => ?_)
 clear hK K
 refine norm_ (a' := ?_) ?_ ?_
 rotate_left
 ·show Act.put _ (some 8) _ = _
  simp only [Act.put, List.setIfInBounds_toArray, List.set_cons_zero, List.set_cons_succ, i64_w, i32_w]
  rfl
 refine pure_ (i := 4) (N := some 9) (v := ?_) (a' := ?_) #[true, true, true, true, true, false] rfl rfl (by kernel_rfl) (fun _ _ _ h => h) (Or.inl ⟨by rfl, ?_⟩) ?_ ?_
 rotate_left
 ·intro w'
  go_simp
  with_reducible rfl
 rotate_left
 ·simp only [Act.put, List.setIfInBounds_toArray, List.set_cons_zero, List.set_cons_succ, i64_w, i32_w]
  rfl
 refine pure_ (i := 5) (N := some 4) (v := ?_) (a' := ?_) #[true, true, true, true, true, true] rfl rfl (by kernel_rfl) (fun _ _ _ h => h) (Or.inl ⟨by rfl, ?_⟩) ?_ ?_
 rotate_left
 ·intro w'
  go_simp
  with_reducible rfl
 rotate_left
 ·simp only [Act.put, List.setIfInBounds_toArray, List.set_cons_zero, List.set_cons_succ, i64_w, i32_w]
  rfl
 refine done_ (by kernel_rfl) ?_
 try go_wp2
 go_ret
 exact ⟨by first | rfl | (simp [errW_none, errW_some] <;> rfl) | (simp [*, errW_none, errW_some] <;> rfl), by repeat (first | (with_reducible first | exact HB.out | apply below_alloc | apply pw_below_drewN | apply below_drew1 | refine below_set ?_ GE284.out | refine below_set ?_ GE285.out) | exact HB.out)⟩

end Go.Proofs.YtakmkhokbcjapaaDoor.XA
end

section
namespace Go.Proofs.YtakmkhokbcjapaaDoor.XA
open Go.Proofs.YtakmkhokbcjapaaDoor.Lift Go.RowKit Go.Proofs.YtakmkhokbcjapaaDoorW.PrintWords Go.Proofs.YtakmkhokbcjapaaDoorW.PrintLast Go.Proofs.YtakmkhokbcjapaaDoorW.PrintMore
attribute [local go_sem] max2_int min2_int max_two min_two max_three min_three max_four min_four   -- for this text's walks alone
set_option linter.unusedVariables false
set_option linter.unusedSimpArgs false

/-! ### swageref02_Int: function 31 -/
def swageref02_Int.l0 : Nat → List (S68) → List (S39) → Int → Int → Option (Bool)
 | 0, _, _, _, _ => none
 | k + 1, x1, x15, x16, x17 => if x17 < x16 then (if 0 ≤ x17 then (if x17 < (x15.length : Int) then (if x17 < (x1.length : Int) then ((swagelaw21_is_1.f k ((rd_T39 x15 x17).f0) ((rd_T39 x15 x17).f1) ((rd_T68 x1 x17).f0) ((rd_T68 x1 x17).f1)).bind fun t292 => (if t292 = true then (swageref02_Int.l0 k x1 x15 x16 (wrap64 (x17 + 1))) else (some false))) else (none)) else (none)) else (none)) else (some true)
def swageref02_Int.f (k : Nat) (l0 : List (S39)) (l1 : List (S68)) : Option (Bool) := if (l0.length : Int) = (l1.length : Int) then (swageref02_Int.l0 k l1 l0 (l0.length : Int) 0) else (some false)
theorem swageref02_Int.mono_l : ∀ k, (∀ y0 y1 y2 y3, LeO (swageref02_Int.l0 k y0 y1 y2 y3) (swageref02_Int.l0 (k + 1) y0 y1 y2 y3))
 | 0 => fun _ _ _ _ r h => by simp [swageref02_Int.l0] at h
 | k + 1 => by
  have ih0 := swageref02_Int.mono_l k
  ·intro y0 y1 y2 y3
   unfold swageref02_Int.l0
   repeat' first
   | (with_reducible exact ih0 _ _ _ _)
   | (with_reducible exact swagelaw21_is_1.mono _ _ _ _ _)
   | (with_reducible exact LeO.refl _)
   | (with_reducible exact LeO.none _)
   | (with_reducible refine LeO.ite ?_ ?_)
   | (with_reducible refine LeO.bind ?_ (fun _ => ?_))
   | exact ih0 _ _ _ _
   | exact swagelaw21_is_1.mono _ _ _ _ _
   | exact LeO.none _
   | refine LeO.ite ?_ ?_
   | refine LeO.bind ?_ (fun _ => ?_)
theorem swageref02_Int.mono : ∀ a0 a1 k, LeO (swageref02_Int.f k a0 a1) (swageref02_Int.f (k + 1) a0 a1) := by
 intro a0 a1 k
 have ih0 := swageref02_Int.mono_l k
 unfold swageref02_Int.f
 repeat' first
   | (with_reducible exact ih0 _ _ _ _)
   | (with_reducible exact swagelaw21_is_1.mono _ _ _ _ _)
   | (with_reducible exact LeO.refl _)
   | (with_reducible exact LeO.none _)
   | (with_reducible refine LeO.ite ?_ ?_)
   | (with_reducible refine LeO.bind ?_ (fun _ => ?_))
   | exact ih0 _ _ _ _
   | exact swagelaw21_is_1.mono _ _ _ _ _
   | exact LeO.none _
   | refine LeO.ite ?_ ?_
   | refine LeO.bind ?_ (fun _ => ?_)
set_option maxHeartbeats 8000000 in
set_option maxRecDepth 100000 in
theorem swageref02_Int.calls (k : Nat) (A0 : Option Addr) (c0 : Nat) (l0 : List (S39)) (A1 : Option Addr) (c1 : Nat) (l1 : List (S68)) (r : Bool) (w : World) (hr0 : Kd.C k39 w A0 l0.length l0) (hc0 : l0.length ≤ c0) (hr1 : Kd.C k68 w A1 l1.length l1) (hc1 : l1.length ≤ c1) (h : swageref02_Int.f k l0 l1 = some r) :
  Calls Tryd.prog 31 #[.slice A0 l0.length c0, .slice A1 l1.length c1, .func (.func 32) #[] #[]] w fun e w' => e = .returned (.bool r) ∧ Below w.heap.size w w' := by
 have hu39 := Tryd.underlying39
 have hu68 := Tryd.underlying68
 have HR0 := Aside0.mk hr0
 have HC0 := Aside0.mk hc0
 clear hr0 hc0
 have HR1 := Aside0.mk hr1
 have HC1 := Aside0.mk hc1
 clear hr1 hc1
 have HB := Aside0.mk (Below.refl w.heap.size w)
 have H : (if (l0.length : Int) = (l1.length : Int) then (swageref02_Int.l0 k l1 l0 (l0.length : Int) 0) else (some false)) = some r := h
 clear h
 by_cases c3 : (l0.length : Int) = (l1.length : Int)
 ·rw [if_pos c3] at H
  have c3b0 : ((l0.length : Int) == (l1.length : Int)) = true := beq_iff_eq.mpr c3
  have c3b1 : ((l0.length : Int) != (l1.length : Int)) = false := bne_eq_false_iff_eq.mpr c3
  have c3b2 : (l0.length == l1.length) = true := by first | simpa using c3 | (simp at c3 ⊢; omega)
  clear c3
  have H' := Aside0.mk H
  clear H
  go_enter Tryd.func31, Tryd.ntmps31
  go_wp2
  go_loopg [17] k (fun kq v17 w' => ∃ (x17_1 : Int), v17 = .int .i64 x17_1 ∧ Aside0 (swageref02_Int.l0 kq l1 l0 (l0.length : Int) x17_1 = some r) ∧ Aside0 (kq ≤ k) ∧ Aside0 (Below w.heap.size w w'))
  case atStart => exact ⟨(0), (by first | rfl | (simp; done) | (simp [*]; done)), H', ⟨Nat.le_refl _⟩, ⟨by repeat (first | (with_reducible first | exact HB.out | apply below_alloc | apply pw_below_drewN | apply below_drew1) | exact HB.out)⟩⟩
  case round =>
   clear H'
   try clear c1
   try clear c3
   obtain ⟨x17_1, rfl, HA, HK1, HB⟩ := hrel
   cases gk with
   | zero => exact absurd HA.out (by simp [swageref02_Int.l0])
   | succ k1 =>
    have H := HA.out
    clear HA
    simp only [swageref02_Int.l0] at H
    by_cases c4 : x17_1 < (l0.length : Int)
    ·rw [if_pos c4] at H
     have c4b0 : decide (x17_1 < (l0.length : Int)) = true := decide_eq_true c4
     clear c4
     by_cases c5 : 0 ≤ x17_1
     ·rw [if_pos c5] at H
      have c5b0 : decide (0 ≤ x17_1) = true := decide_eq_true c5
      clear c5
      by_cases c6 : x17_1 < (l0.length : Int)
      ·rw [if_pos c6] at H
       have c6b0 : decide (x17_1 < (l0.length : Int)) = true := decide_eq_true c6
       clear c6
       by_cases c7 : x17_1 < (l1.length : Int)
       ·rw [if_pos c7] at H
        have c7b0 : decide (x17_1 < (l1.length : Int)) = true := decide_eq_true c7
        clear c7
        replace H := Option.bind_eq_some_iff.mp H
        obtain ⟨t292, A80, H⟩ := H
        replace H : (if t292 = true then (swageref02_Int.l0 k1 l1 l0 (l0.length : Int) (wrap64 (x17_1 + 1))) else (some false)) = some r := H
        have A8 := Aside0.mk A80
        clear A80
        by_cases c9 : t292 = true
        ·subst c9
         have H1 : (swageref02_Int.l0 k1 l1 l0 (l0.length : Int) (wrap64 (x17_1 + 1))) = some r := by rw [if_pos rfl] at H; exact H
         clear H
         have H := H1
         clear H1
         have H' := Aside0.mk H
         clear H
         have p288 : 0 ≤ (x17_1 : Int) := of_decide_eq_true (by first | (with_reducible assumption) | assumption)
         have q288 : x17_1 < (l0.length : Int) := of_decide_eq_true (by first | (with_reducible assumption) | assumption)
         obtain ⟨ad288, A288_1, c288_1, e288, hx288_0, hx288_1, hl288_1, hi288_1⟩ := at_T39 HR0.out x17_1 p288 q288
         cases e288
         replace hx288_0 := (HB.out.cell (World.block_lt_of_cell? w _ hx288_0)).trans hx288_0
         replace hx288_1 := (HB.out.cell (World.block_lt_of_cell? w _ hx288_1)).trans hx288_1
         have HR288_1 := Aside0.mk hi288_1
         have HC288_1 := Aside0.mk hl288_1
         clear hi288_1 hl288_1
         replace p288 := eq_true p288
         replace q288 := eq_true q288
         go_wp2_with (first | ((with_reducible refine gate_dst (N := 8) rfl ?_); refine box_event ?hg (N := 8) ?hd (cs := #[.bool false, .slice none 0 0]) (t := 39) ?hr ?_; (case hd => rfl); (case hg => rfl); (case hr => first | (go_simp; done) | (go_simp; rfl)); intro gb289 hg w10 hbox hb; have n0_ := Aside0.mk (below_step (lB HB) hb); have n1_ := Aside0.mk (hbox); have n2_ := Aside0.mk ((by rw [hg]; exact (below_size (lB HB)) : w.heap.size ≤ gb289)); have n3_ := Aside0.mk ((by rw [hg]; exact (below_size (lB HB)) : w.heap.size ≤ gb289)); clear HB; have HB := n0_; have BK289 := n1_; have GW289 := n2_; have GE289 := n3_; clear n0_ n1_ n2_ n3_; clear hb hbox hg; have hcz11_0 : w10.cell? ⟨gb289, 0, none⟩ = some (.bool false) := (blk_cell BK289.out 0).trans rfl; have hcz11_1 : w10.cell? ⟨gb289, 1, none⟩ = some (.slice none 0 0) := (blk_cell BK289.out 1).trans rfl; have hfz11_0 := blk_frozen BK289.out 0; have hfz11_1 := blk_frozen BK289.out 1; have p290 : 0 ≤ (x17_1 : Int) := of_decide_eq_true (by first | (with_reducible assumption) | assumption); have q290 : x17_1 < (l1.length : Int) := of_decide_eq_true (by first | (with_reducible assumption) | assumption); obtain ⟨ad290, A290_1, c290_1, e290, hx290_0, hx290_1, hl290_1, hi290_1⟩ := at_T68 HR1.out x17_1 p290 q290; cases e290; have hn290_0 : ad290.block ≠ gb289 := Nat.ne_of_lt (Nat.lt_of_lt_of_le (by have := World.block_lt_of_cell? _ _ hx290_0; first | rwa [add_block] at this | exact this) GW289.out); have hn290_1 : ad290.block ≠ gb289 := Nat.ne_of_lt (Nat.lt_of_lt_of_le (by have := World.block_lt_of_cell? _ _ hx290_0; first | rwa [add_block] at this | exact this) GW289.out); replace hx290_0 := (HB.out.cell (World.block_lt_of_cell? w _ hx290_0)).trans hx290_0; replace hx290_1 := (HB.out.cell (World.block_lt_of_cell? w _ hx290_1)).trans hx290_1; have HR290_1 := Aside0.mk hi290_1; have HC290_1 := Aside0.mk hl290_1; clear hi290_1 hl290_1; replace hx290_0 := (cell_far (p := ⟨gb289, 0, none⟩) (by first | (rw [add_block]; exact hn290_0) | (show (Addr.add _ _).block ≠ _; rw [add_block]; exact hn290_0) | exact hn290_0) (.bool ((rd_T39 l0 x17_1).f0))).trans hx290_0; replace hx290_1 := (cell_far (p := ⟨gb289, 0, none⟩) (by first | (rw [add_block]; exact hn290_0) | (show (Addr.add _ _).block ≠ _; rw [add_block]; exact hn290_0) | exact hn290_0) (.bool ((rd_T39 l0 x17_1).f0))).trans hx290_1; replace hx290_0 := (cell_far (p := ⟨gb289, 1, none⟩) (by first | (rw [add_block]; exact hn290_1) | (show (Addr.add _ _).block ≠ _; rw [add_block]; exact hn290_1) | exact hn290_1) (.slice A288_1 ((rd_T39 l0 x17_1).f1).length c288_1)).trans hx290_0; replace hx290_1 := (cell_far (p := ⟨gb289, 1, none⟩) (by first | (rw [add_block]; exact hn290_1) | (show (Addr.add _ _).block ≠ _; rw [add_block]; exact hn290_1) | exact hn290_1) (.slice A288_1 ((rd_T39 l0 x17_1).f1).length c288_1)).trans hx290_1; clear hn290_0; clear hn290_1; replace p290 := eq_true p290; replace q290 := eq_true q290) | ((with_reducible refine gate_dst (N := 9) rfl ?_); refine box_event ?hg (N := 9) ?hd (cs := #[.bool false, .slice none 0 0]) (t := 68) ?hr ?_; (case hd => rfl); (case hg => rfl); (case hr => first | (go_simp; done) | (go_simp; rfl)); intro gb291 hg w12 hbox hb; have n0_ := Aside0.mk (blk_below (g := gb289) (o := .cells #[.bool ((rd_T39 l0 x17_1).f0), .slice A288_1 ((rd_T39 l0 x17_1).f1).length c288_1] 39 (0, 0)) (by (with_reducible repeat (first | refine blk_drewN ?_ _ | refine blk_drew ?_ | refine blk_alloc ?_ _)); refine blk_put (cs := #[.bool ((rd_T39 l0 x17_1).f0), .slice none 0 0]) ?_ 1 _ rfl; (with_reducible repeat (first | refine blk_drewN ?_ _ | refine blk_drew ?_ | refine blk_alloc ?_ _)); refine blk_put (cs := #[.bool false, .slice none 0 0]) ?_ 0 _ rfl; (with_reducible repeat (first | refine blk_drewN ?_ _ | refine blk_drew ?_ | refine blk_alloc ?_ _)); exact BK289.out) hb); have n1_ := Aside0.mk (below_step (by repeat (first | (with_reducible first | exact HB.out | apply below_alloc | apply pw_below_drewN | apply below_drew1 | refine below_set ?_ GE289.out) | exact HB.out)) hb); have n2_ := Aside0.mk (hbox); have n3_ := Aside0.mk ((by rw [hg]; exact (below_size (by repeat (first | (with_reducible first | exact HB.out | apply below_alloc | apply pw_below_drewN | apply below_drew1 | refine below_set ?_ GE289.out) | exact HB.out))) : w.heap.size ≤ gb291)); have n4_ := Aside0.mk ((by rw [hg]; exact (below_size (by repeat (first | (with_reducible first | exact HB.out | apply below_alloc | apply pw_below_drewN | apply below_drew1 | refine below_set ?_ GE289.out) | exact HB.out))) : w.heap.size ≤ gb291)); have n5_ := Aside0.mk ((by rw [hg]; exact Nat.ne_of_lt (blk_lt (g := gb289) (o := .cells #[.bool ((rd_T39 l0 x17_1).f0), .slice A288_1 ((rd_T39 l0 x17_1).f1).length c288_1] 39 (0, 0)) (by (with_reducible repeat (first | refine blk_drewN ?_ _ | refine blk_drew ?_ | refine blk_alloc ?_ _)); refine blk_put (cs := #[.bool ((rd_T39 l0 x17_1).f0), .slice none 0 0]) ?_ 1 _ rfl; (with_reducible repeat (first | refine blk_drewN ?_ _ | refine blk_drew ?_ | refine blk_alloc ?_ _)); refine blk_put (cs := #[.bool false, .slice none 0 0]) ?_ 0 _ rfl; (with_reducible repeat (first | refine blk_drewN ?_ _ | refine blk_drew ?_ | refine blk_alloc ?_ _)); exact BK289.out)) : gb289 ≠ gb291)); have n6_ := Aside0.mk ((by rw [hg]; exact Nat.ne_of_gt (blk_lt (g := gb289) (o := .cells #[.bool ((rd_T39 l0 x17_1).f0), .slice A288_1 ((rd_T39 l0 x17_1).f1).length c288_1] 39 (0, 0)) (by (with_reducible repeat (first | refine blk_drewN ?_ _ | refine blk_drew ?_ | refine blk_alloc ?_ _)); refine blk_put (cs := #[.bool ((rd_T39 l0 x17_1).f0), .slice none 0 0]) ?_ 1 _ rfl; (with_reducible repeat (first | refine blk_drewN ?_ _ | refine blk_drew ?_ | refine blk_alloc ?_ _)); refine blk_put (cs := #[.bool false, .slice none 0 0]) ?_ 0 _ rfl; (with_reducible repeat (first | refine blk_drewN ?_ _ | refine blk_drew ?_ | refine blk_alloc ?_ _)); exact BK289.out)) : gb291 ≠ gb289)); clear BK289; clear HB; have BK289 := n0_; have HB := n1_; have BK291 := n2_; have GW291 := n3_; have GE291 := n4_; have NB289_291 := n5_; have NB291_289 := n6_; clear n0_ n1_ n2_ n3_ n4_ n5_ n6_; clear hb hbox hg; have hnb13 := NB291_289.out; have hnc13 := NB289_291.out; have hcz14_0 : w12.cell? ⟨gb291, 0, none⟩ = some (.bool false) := (blk_cell BK291.out 0).trans rfl; have hcz14_1 : w12.cell? ⟨gb291, 1, none⟩ = some (.slice none 0 0) := (blk_cell BK291.out 1).trans rfl; have hfz14_0 := blk_frozen BK291.out 0; have hfz14_1 := blk_frozen BK291.out 1; have hcz15_0 : w12.cell? ⟨gb289, 0, none⟩ = some (.bool ((rd_T39 l0 x17_1).f0)) := (blk_cell BK289.out 0).trans rfl; have hcz15_1 : w12.cell? ⟨gb289, 1, none⟩ = some (.slice A288_1 ((rd_T39 l0 x17_1).f1).length c288_1) := (blk_cell BK289.out 1).trans rfl; have hfz15_0 := blk_frozen BK289.out 0; have hfz15_1 := blk_frozen BK289.out 1) | ((with_reducible refine gate_callee_v rfl ?_); refine goesL_v (some 29) rfl rfl Tryd.func32 (by kernel_rfl) rfl #[.agg #[.bool ((rd_T39 l0 x17_1).f0), .slice A288_1 ((rd_T39 l0 x17_1).f1).length c288_1], .agg #[.bool ((rd_T68 l1 x17_1).f0), .slice A290_1 ((rd_T68 l1 x17_1).f1).length c290_1]] rfl rfl (by (try simp only [List.map_toArray, List.map_cons, List.map_nil]); first | done | rfl | (simp only [List.length_drop, List.length_take]; rfl)) ?_; (with_reducible refine (swagelaw21_is_1.calls k1 ((rd_T39 l0 x17_1).f0) _ _ ((rd_T39 l0 x17_1).f1) ((rd_T68 l1 x17_1).f0) _ _ ((rd_T68 l1 x17_1).f1) true _ ?side1 ?side2 ?side3 ?side4 A8.out).mono ?_); (case side1 => exact Kd.C_below HR288_1.out (by repeat (first | (with_reducible first | exact HB.out | apply below_alloc | apply pw_below_drewN | apply below_drew1 | refine below_set ?_ GE289.out | refine below_set ?_ GE291.out) | exact HB.out))); (case side2 => exact HC288_1.out); (case side3 => exact Kd.C_below HR290_1.out (by repeat (first | (with_reducible first | exact HB.out | apply below_alloc | apply pw_below_drewN | apply below_drew1 | refine below_set ?_ GE289.out | refine below_set ?_ GE291.out) | exact HB.out))); (case side4 => exact HC290_1.out); rintro e w16 ⟨rfl, hb⟩; refine ⟨_, rfl, ?_⟩; have n0_ := Aside0.mk (blk_below (g := gb289) (o := .cells #[.bool ((rd_T39 l0 x17_1).f0), .slice A288_1 ((rd_T39 l0 x17_1).f1).length c288_1] 39 (0, 0)) (by (with_reducible repeat (first | refine blk_drewN ?_ _ | refine blk_drew ?_ | refine blk_alloc ?_ _)); refine blk_far ?_ NB289_291.out _; (with_reducible repeat (first | refine blk_drewN ?_ _ | refine blk_drew ?_ | refine blk_alloc ?_ _)); refine blk_far ?_ NB289_291.out _; (with_reducible repeat (first | refine blk_drewN ?_ _ | refine blk_drew ?_ | refine blk_alloc ?_ _)); exact BK289.out) hb); have n1_ := Aside0.mk (blk_below (g := gb291) (o := .cells #[.bool ((rd_T68 l1 x17_1).f0), .slice A290_1 ((rd_T68 l1 x17_1).f1).length c290_1] 68 (0, 0)) (by (with_reducible repeat (first | refine blk_drewN ?_ _ | refine blk_drew ?_ | refine blk_alloc ?_ _)); refine blk_put (cs := #[.bool ((rd_T68 l1 x17_1).f0), .slice none 0 0]) ?_ 1 _ rfl; (with_reducible repeat (first | refine blk_drewN ?_ _ | refine blk_drew ?_ | refine blk_alloc ?_ _)); refine blk_put (cs := #[.bool false, .slice none 0 0]) ?_ 0 _ rfl; (with_reducible repeat (first | refine blk_drewN ?_ _ | refine blk_drew ?_ | refine blk_alloc ?_ _)); exact BK291.out) hb); have n2_ := Aside0.mk (below_step (by repeat (first | (with_reducible first | exact HB.out | apply below_alloc | apply pw_below_drewN | apply below_drew1 | refine below_set ?_ GE289.out | refine below_set ?_ GE291.out) | exact HB.out)) hb); clear BK289; clear BK291; clear HB; have BK289 := n0_; have BK291 := n1_; have HB := n2_; clear n0_ n1_ n2_; (try clear hb); (try clear hb2); (try clear hk); (try clear hi)))
         go_roundg k1
         case measure => have := HK1.out; omega
         case rel => exact ⟨(wrap64 (x17_1 + 1)), (by first | rfl | (simp; done) | (simp [*]; done)), H', ⟨by have := HK1.out; omega⟩, ⟨by repeat (first | (with_reducible first | exact HB.out | apply below_alloc | apply pw_below_drewN | apply below_drew1 | refine below_set ?_ GE289.out | refine below_set ?_ GE291.out) | exact HB.out)⟩⟩
        ·replace c9 := Bool.eq_false_iff.mpr c9
         subst c9
         have H1 : (some false) = some r := by rw [if_neg (show ¬ (false = true) by decide)] at H; exact H
         clear H
         have H := H1
         clear H1
         obtain rfl := Option.some.inj H
         have p288 : 0 ≤ (x17_1 : Int) := of_decide_eq_true (by first | (with_reducible assumption) | assumption)
         have q288 : x17_1 < (l0.length : Int) := of_decide_eq_true (by first | (with_reducible assumption) | assumption)
         obtain ⟨ad288, A288_1, c288_1, e288, hx288_0, hx288_1, hl288_1, hi288_1⟩ := at_T39 HR0.out x17_1 p288 q288
         cases e288
         replace hx288_0 := (HB.out.cell (World.block_lt_of_cell? w _ hx288_0)).trans hx288_0
         replace hx288_1 := (HB.out.cell (World.block_lt_of_cell? w _ hx288_1)).trans hx288_1
         have HR288_1 := Aside0.mk hi288_1
         have HC288_1 := Aside0.mk hl288_1
         clear hi288_1 hl288_1
         replace p288 := eq_true p288
         replace q288 := eq_true q288
         go_wp2_with (first | ((with_reducible refine gate_dst (N := 8) rfl ?_); refine box_event ?hg (N := 8) ?hd (cs := #[.bool false, .slice none 0 0]) (t := 39) ?hr ?_; (case hd => rfl); (case hg => rfl); (case hr => first | (go_simp; done) | (go_simp; rfl)); intro gb289 hg w17 hbox hb; have n0_ := Aside0.mk (below_step (lB HB) hb); have n1_ := Aside0.mk (hbox); have n2_ := Aside0.mk ((by rw [hg]; exact (below_size (lB HB)) : w.heap.size ≤ gb289)); have n3_ := Aside0.mk ((by rw [hg]; exact (below_size (lB HB)) : w.heap.size ≤ gb289)); clear HB; have HB := n0_; have BK289 := n1_; have GW289 := n2_; have GE289 := n3_; clear n0_ n1_ n2_ n3_; clear hb hbox hg; have hcz18_0 : w17.cell? ⟨gb289, 0, none⟩ = some (.bool false) := (blk_cell BK289.out 0).trans rfl; have hcz18_1 : w17.cell? ⟨gb289, 1, none⟩ = some (.slice none 0 0) := (blk_cell BK289.out 1).trans rfl; have hfz18_0 := blk_frozen BK289.out 0; have hfz18_1 := blk_frozen BK289.out 1; have p290 : 0 ≤ (x17_1 : Int) := of_decide_eq_true (by first | (with_reducible assumption) | assumption); have q290 : x17_1 < (l1.length : Int) := of_decide_eq_true (by first | (with_reducible assumption) | assumption); obtain ⟨ad290, A290_1, c290_1, e290, hx290_0, hx290_1, hl290_1, hi290_1⟩ := at_T68 HR1.out x17_1 p290 q290; cases e290; have hn290_0 : ad290.block ≠ gb289 := Nat.ne_of_lt (Nat.lt_of_lt_of_le (by have := World.block_lt_of_cell? _ _ hx290_0; first | rwa [add_block] at this | exact this) GW289.out); have hn290_1 : ad290.block ≠ gb289 := Nat.ne_of_lt (Nat.lt_of_lt_of_le (by have := World.block_lt_of_cell? _ _ hx290_0; first | rwa [add_block] at this | exact this) GW289.out); replace hx290_0 := (HB.out.cell (World.block_lt_of_cell? w _ hx290_0)).trans hx290_0; replace hx290_1 := (HB.out.cell (World.block_lt_of_cell? w _ hx290_1)).trans hx290_1; have HR290_1 := Aside0.mk hi290_1; have HC290_1 := Aside0.mk hl290_1; clear hi290_1 hl290_1; replace hx290_0 := (cell_far (p := ⟨gb289, 0, none⟩) (by first | (rw [add_block]; exact hn290_0) | (show (Addr.add _ _).block ≠ _; rw [add_block]; exact hn290_0) | exact hn290_0) (.bool ((rd_T39 l0 x17_1).f0))).trans hx290_0; replace hx290_1 := (cell_far (p := ⟨gb289, 0, none⟩) (by first | (rw [add_block]; exact hn290_0) | (show (Addr.add _ _).block ≠ _; rw [add_block]; exact hn290_0) | exact hn290_0) (.bool ((rd_T39 l0 x17_1).f0))).trans hx290_1; replace hx290_0 := (cell_far (p := ⟨gb289, 1, none⟩) (by first | (rw [add_block]; exact hn290_1) | (show (Addr.add _ _).block ≠ _; rw [add_block]; exact hn290_1) | exact hn290_1) (.slice A288_1 ((rd_T39 l0 x17_1).f1).length c288_1)).trans hx290_0; replace hx290_1 := (cell_far (p := ⟨gb289, 1, none⟩) (by first | (rw [add_block]; exact hn290_1) | (show (Addr.add _ _).block ≠ _; rw [add_block]; exact hn290_1) | exact hn290_1) (.slice A288_1 ((rd_T39 l0 x17_1).f1).length c288_1)).trans hx290_1; clear hn290_0; clear hn290_1; replace p290 := eq_true p290; replace q290 := eq_true q290) | ((with_reducible refine gate_dst (N := 9) rfl ?_); refine box_event ?hg (N := 9) ?hd (cs := #[.bool false, .slice none 0 0]) (t := 68) ?hr ?_; (case hd => rfl); (case hg => rfl); (case hr => first | (go_simp; done) | (go_simp; rfl)); intro gb291 hg w19 hbox hb; have n0_ := Aside0.mk (blk_below (g := gb289) (o := .cells #[.bool ((rd_T39 l0 x17_1).f0), .slice A288_1 ((rd_T39 l0 x17_1).f1).length c288_1] 39 (0, 0)) (by (with_reducible repeat (first | refine blk_drewN ?_ _ | refine blk_drew ?_ | refine blk_alloc ?_ _)); refine blk_put (cs := #[.bool ((rd_T39 l0 x17_1).f0), .slice none 0 0]) ?_ 1 _ rfl; (with_reducible repeat (first | refine blk_drewN ?_ _ | refine blk_drew ?_ | refine blk_alloc ?_ _)); refine blk_put (cs := #[.bool false, .slice none 0 0]) ?_ 0 _ rfl; (with_reducible repeat (first | refine blk_drewN ?_ _ | refine blk_drew ?_ | refine blk_alloc ?_ _)); exact BK289.out) hb); have n1_ := Aside0.mk (below_step (by repeat (first | (with_reducible first | exact HB.out | apply below_alloc | apply pw_below_drewN | apply below_drew1 | refine below_set ?_ GE289.out) | exact HB.out)) hb); have n2_ := Aside0.mk (hbox); have n3_ := Aside0.mk ((by rw [hg]; exact (below_size (by repeat (first | (with_reducible first | exact HB.out | apply below_alloc | apply pw_below_drewN | apply below_drew1 | refine below_set ?_ GE289.out) | exact HB.out))) : w.heap.size ≤ gb291)); have n4_ := Aside0.mk ((by rw [hg]; exact (below_size (by repeat (first | (with_reducible first | exact HB.out | apply below_alloc | apply pw_below_drewN | apply below_drew1 | refine below_set ?_ GE289.out) | exact HB.out))) : w.heap.size ≤ gb291)); have n5_ := Aside0.mk ((by rw [hg]; exact Nat.ne_of_lt (blk_lt (g := gb289) (o := .cells #[.bool ((rd_T39 l0 x17_1).f0), .slice A288_1 ((rd_T39 l0 x17_1).f1).length c288_1] 39 (0, 0)) (by (with_reducible repeat (first | refine blk_drewN ?_ _ | refine blk_drew ?_ | refine blk_alloc ?_ _)); refine blk_put (cs := #[.bool ((rd_T39 l0 x17_1).f0), .slice none 0 0]) ?_ 1 _ rfl; (with_reducible repeat (first | refine blk_drewN ?_ _ | refine blk_drew ?_ | refine blk_alloc ?_ _)); refine blk_put (cs := #[.bool false, .slice none 0 0]) ?_ 0 _ rfl; (with_reducible repeat (first | refine blk_drewN ?_ _ | refine blk_drew ?_ | refine blk_alloc ?_ _)); exact BK289.out)) : gb289 ≠ gb291)); have n6_ := Aside0.mk ((by rw [hg]; exact Nat.ne_of_gt (blk_lt (g := gb289) (o := .cells #[.bool ((rd_T39 l0 x17_1).f0), .slice A288_1 ((rd_T39 l0 x17_1).f1).length c288_1] 39 (0, 0)) (by (with_reducible repeat (first | refine blk_drewN ?_ _ | refine blk_drew ?_ | refine blk_alloc ?_ _)); refine blk_put (cs := #[.bool ((rd_T39 l0 x17_1).f0), .slice none 0 0]) ?_ 1 _ rfl; (with_reducible repeat (first | refine blk_drewN ?_ _ | refine blk_drew ?_ | refine blk_alloc ?_ _)); refine blk_put (cs := #[.bool false, .slice none 0 0]) ?_ 0 _ rfl; (with_reducible repeat (first | refine blk_drewN ?_ _ | refine blk_drew ?_ | refine blk_alloc ?_ _)); exact BK289.out)) : gb291 ≠ gb289)); clear BK289; clear HB; have BK289 := n0_; have HB := n1_; have BK291 := n2_; have GW291 := n3_; have GE291 := n4_; have NB289_291 := n5_; have NB291_289 := n6_; clear n0_ n1_ n2_ n3_ n4_ n5_ n6_; clear hb hbox hg; have hnb20 := NB291_289.out; have hnc20 := NB289_291.out; have hcz21_0 : w19.cell? ⟨gb291, 0, none⟩ = some (.bool false) := (blk_cell BK291.out 0).trans rfl; have hcz21_1 : w19.cell? ⟨gb291, 1, none⟩ = some (.slice none 0 0) := (blk_cell BK291.out 1).trans rfl; have hfz21_0 := blk_frozen BK291.out 0; have hfz21_1 := blk_frozen BK291.out 1; have hcz22_0 : w19.cell? ⟨gb289, 0, none⟩ = some (.bool ((rd_T39 l0 x17_1).f0)) := (blk_cell BK289.out 0).trans rfl; have hcz22_1 : w19.cell? ⟨gb289, 1, none⟩ = some (.slice A288_1 ((rd_T39 l0 x17_1).f1).length c288_1) := (blk_cell BK289.out 1).trans rfl; have hfz22_0 := blk_frozen BK289.out 0; have hfz22_1 := blk_frozen BK289.out 1) | ((with_reducible refine gate_callee_v rfl ?_); refine goesL_v (some 29) rfl rfl Tryd.func32 (by kernel_rfl) rfl #[.agg #[.bool ((rd_T39 l0 x17_1).f0), .slice A288_1 ((rd_T39 l0 x17_1).f1).length c288_1], .agg #[.bool ((rd_T68 l1 x17_1).f0), .slice A290_1 ((rd_T68 l1 x17_1).f1).length c290_1]] rfl rfl (by (try simp only [List.map_toArray, List.map_cons, List.map_nil]); first | done | rfl | (simp only [List.length_drop, List.length_take]; rfl)) ?_; (with_reducible refine (swagelaw21_is_1.calls k1 ((rd_T39 l0 x17_1).f0) _ _ ((rd_T39 l0 x17_1).f1) ((rd_T68 l1 x17_1).f0) _ _ ((rd_T68 l1 x17_1).f1) false _ ?side1 ?side2 ?side3 ?side4 A8.out).mono ?_); (case side1 => exact Kd.C_below HR288_1.out (by repeat (first | (with_reducible first | exact HB.out | apply below_alloc | apply pw_below_drewN | apply below_drew1 | refine below_set ?_ GE289.out | refine below_set ?_ GE291.out) | exact HB.out))); (case side2 => exact HC288_1.out); (case side3 => exact Kd.C_below HR290_1.out (by repeat (first | (with_reducible first | exact HB.out | apply below_alloc | apply pw_below_drewN | apply below_drew1 | refine below_set ?_ GE289.out | refine below_set ?_ GE291.out) | exact HB.out))); (case side4 => exact HC290_1.out); rintro e w23 ⟨rfl, hb⟩; refine ⟨_, rfl, ?_⟩; have n0_ := Aside0.mk (blk_below (g := gb289) (o := .cells #[.bool ((rd_T39 l0 x17_1).f0), .slice A288_1 ((rd_T39 l0 x17_1).f1).length c288_1] 39 (0, 0)) (by (with_reducible repeat (first | refine blk_drewN ?_ _ | refine blk_drew ?_ | refine blk_alloc ?_ _)); refine blk_far ?_ NB289_291.out _; (with_reducible repeat (first | refine blk_drewN ?_ _ | refine blk_drew ?_ | refine blk_alloc ?_ _)); refine blk_far ?_ NB289_291.out _; (with_reducible repeat (first | refine blk_drewN ?_ _ | refine blk_drew ?_ | refine blk_alloc ?_ _)); exact BK289.out) hb); have n1_ := Aside0.mk (blk_below (g := gb291) (o := .cells #[.bool ((rd_T68 l1 x17_1).f0), .slice A290_1 ((rd_T68 l1 x17_1).f1).length c290_1] 68 (0, 0)) (by (with_reducible repeat (first | refine blk_drewN ?_ _ | refine blk_drew ?_ | refine blk_alloc ?_ _)); refine blk_put (cs := #[.bool ((rd_T68 l1 x17_1).f0), .slice none 0 0]) ?_ 1 _ rfl; (with_reducible repeat (first | refine blk_drewN ?_ _ | refine blk_drew ?_ | refine blk_alloc ?_ _)); refine blk_put (cs := #[.bool false, .slice none 0 0]) ?_ 0 _ rfl; (with_reducible repeat (first | refine blk_drewN ?_ _ | refine blk_drew ?_ | refine blk_alloc ?_ _)); exact BK291.out) hb); have n2_ := Aside0.mk (below_step (by repeat (first | (with_reducible first | exact HB.out | apply below_alloc | apply pw_below_drewN | apply below_drew1 | refine below_set ?_ GE289.out | refine below_set ?_ GE291.out) | exact HB.out)) hb); clear BK289; clear BK291; clear HB; have BK289 := n0_; have BK291 := n1_; have HB := n2_; clear n0_ n1_ n2_; (try clear hb); (try clear hb2); (try clear hk); (try clear hi)))
         go_ret
         exact ⟨by first | rfl | (simp [errW_none, errW_some] <;> rfl) | (simp [*, errW_none, errW_some] <;> rfl), by repeat (first | (with_reducible first | exact HB.out | apply below_alloc | apply pw_below_drewN | apply below_drew1 | refine below_set ?_ GE289.out | refine below_set ?_ GE291.out) | exact HB.out)⟩
       ·rw [if_neg c7] at H
        exact absurd H (by simp)
      ·rw [if_neg c6] at H
       exact absurd H (by simp)
     ·rw [if_neg c5] at H
      exact absurd H (by simp)
    ·rw [if_neg c4] at H
     have c4b0 : decide (x17_1 < (l0.length : Int)) = false := decide_eq_false c4
     clear c4
     obtain rfl := Option.some.inj H
     go_wp2
     go_ret
     exact ⟨by first | rfl | (simp [errW_none, errW_some] <;> rfl) | (simp [*, errW_none, errW_some] <;> rfl), by repeat (first | (with_reducible first | exact HB.out | apply below_alloc | apply pw_below_drewN | apply below_drew1) | exact HB.out)⟩
 ·rw [if_neg c3] at H
  have c3b0 : ((l0.length : Int) == (l1.length : Int)) = false := beq_eq_false_iff_ne.mpr c3
  have c3b1 : ((l0.length : Int) != (l1.length : Int)) = true := bne_iff_ne.mpr c3
  have c3b2 : (l0.length == l1.length) = false := by first | simpa using c3 | (simp at c3 ⊢; omega)
  obtain rfl := Option.some.inj H
  go_enter Tryd.func31, Tryd.ntmps31
  go_wp2
  go_ret
  exact ⟨by first | rfl | (simp [errW_none, errW_some] <;> rfl) | (simp [*, errW_none, errW_some] <;> rfl), by repeat (first | (with_reducible first | exact HB.out | apply below_alloc | apply pw_below_drewN | apply below_drew1) | exact HB.out)⟩

/-! ### swagelaw21_is: function 16 -/
def swagelaw21_is.f (k : Nat) (l0 : List (S39)) (l1 : List (S68)) : Option (Bool) := (swageref02_Int.f k l0 l1).bind fun t293 => (some t293)
theorem swagelaw21_is.mono : ∀ a0 a1 k, LeO (swagelaw21_is.f k a0 a1) (swagelaw21_is.f (k + 1) a0 a1) := by
 intro a0 a1 k
 unfold swagelaw21_is.f
 repeat' first
   | (with_reducible exact swageref02_Int.mono _ _ _)
   | (with_reducible exact LeO.refl _)
   | (with_reducible exact LeO.none _)
   | (with_reducible refine LeO.ite ?_ ?_)
   | (with_reducible refine LeO.bind ?_ (fun _ => ?_))
   | exact swageref02_Int.mono _ _ _
   | exact LeO.none _
   | refine LeO.ite ?_ ?_
   | refine LeO.bind ?_ (fun _ => ?_)
set_option maxHeartbeats 8000000 in
set_option maxRecDepth 100000 in
theorem swagelaw21_is.calls (k : Nat) (A0 : Option Addr) (c0 : Nat) (l0 : List (S39)) (A1 : Option Addr) (c1 : Nat) (l1 : List (S68)) (r : Bool) (w : World) (hr0 : Kd.C k39 w A0 l0.length l0) (hc0 : l0.length ≤ c0) (hr1 : Kd.C k68 w A1 l1.length l1) (hc1 : l1.length ≤ c1) (h : swagelaw21_is.f k l0 l1 = some r) :
  Calls Tryd.prog 16 #[.slice A0 l0.length c0, .slice A1 l1.length c1] w fun e w' => e = .returned (.bool r) ∧ Below w.heap.size w w' := by
 have HR0 := Aside0.mk hr0
 have HC0 := Aside0.mk hc0
 clear hr0 hc0
 have HR1 := Aside0.mk hr1
 have HC1 := Aside0.mk hc1
 clear hr1 hc1
 have HB := Aside0.mk (Below.refl w.heap.size w)
 have H : ((swageref02_Int.f k l0 l1).bind fun t293 => (some t293)) = some r := h
 clear h
 replace H := Option.bind_eq_some_iff.mp H
 obtain ⟨t293, A30, H⟩ := H
 replace H : (some t293) = some r := H
 have A3 := Aside0.mk A30
 clear A30
 obtain rfl := Option.some.inj H
 go_enter Tryd.func16, Tryd.ntmps16
 go_wp2_with (first | ((with_reducible refine gate_callee (f := 31) rfl ?_); refine goesL_ (some 7) rfl rfl Tryd.func31 (by kernel_rfl) rfl #[.slice A0 l0.length c0, .slice A1 l1.length c1, .func (.func 32) #[] #[]] rfl (by (try simp only [List.map_toArray, List.map_cons, List.map_nil]); first | done | rfl | (simp only [List.length_drop, List.length_take]; rfl)) ?_; (with_reducible refine (swageref02_Int.calls k _ _ l0 _ _ l1 t293 _ ?side1 ?side2 ?side3 ?side4 A3.out).mono ?_); (case side1 => repeat (first | exact HR0.out | (with_reducible refine Kd.C_alloc ?_ _) | (with_reducible refine Kd.C_drewN ?_ _) | (with_reducible refine Kd.C_drew ?_))); (case side2 => exact HC0.out); (case side3 => repeat (first | exact HR1.out | (with_reducible refine Kd.C_alloc ?_ _) | (with_reducible refine Kd.C_drewN ?_ _) | (with_reducible refine Kd.C_drew ?_))); (case side4 => exact HC1.out); rintro e w4 ⟨rfl, hb⟩; refine ⟨_, rfl, ?_⟩; have n0_ := Aside0.mk (below_step (lB HB) hb); clear HB; have HB := n0_; clear n0_; (try clear hb); (try clear hb2); (try clear hk); (try clear hi)))
 go_ret
 exact ⟨by first | rfl | (simp [errW_none, errW_some] <;> rfl) | (simp [*, errW_none, errW_some] <;> rfl), by repeat (first | (with_reducible first | exact HB.out | apply below_alloc | apply pw_below_drewN | apply below_drew1) | exact HB.out)⟩

end Go.Proofs.YtakmkhokbcjapaaDoor.XA
end

section
namespace Go.Proofs.YtakmkhokbcjapaaDoor.XA
open Go.Proofs.YtakmkhokbcjapaaDoor.Lift Go.RowKit Go.Proofs.YtakmkhokbcjapaaDoorW.PrintWords Go.Proofs.YtakmkhokbcjapaaDoorW.PrintLast Go.Proofs.YtakmkhokbcjapaaDoorW.PrintMore
attribute [local go_sem] max2_int min2_int max_two min_two max_three min_three max_four min_four   -- for this text's walks alone
set_option linter.unusedVariables false
set_option linter.unusedSimpArgs false

/-! ### swagelaw21_works: function 10 -/
def swagelaw21_works.f (k : Nat)  : Option (Bool) := (swagelaw21_list.f k (([1, 2, 3, 4, 5] : List Int))).bind fun t381 => ((split_Parts.f k t381 2 3).bind fun bt384 => ((split_Block.f k 7 5 3 2).bind fun bt388 => ((swagelaw21_list.f k (([1, 2, 3] : List Int))).bind fun t393 => ((swagelaw21_list.f k (([10, 20, 30] : List Int))).bind fun t399 => ((swagelaw21_list.f k (([100] : List Int))).bind fun t405 => ((split_Join.f k (([t393, t399, t405] : List (List (S39)))) 2 5).bind fun bt411 => (if bt384.2 = 0 then (if bt388.2 = 0 then (if bt411.2 = 0 then (if (bt384.1.length : Int) = 2 then (if 0 < (bt384.1.length : Int) then ((swagelaw21_ref.f k (([1, 2, 3] : List Int))).bind fun t419 => ((swagelaw21_is.f k (rd_L5 bt384.1 0) t419).bind fun t422 => (if t422 = true then (if 1 < (bt384.1.length : Int) then ((swagelaw21_ref.f k (([4, 5, 0] : List Int))).bind fun t427 => ((swagelaw21_is.f k (rd_L5 bt384.1 1) t427).bind fun t430 => (if t430 = true then (if bt388.1 = 3 then ((swagelaw21_ref.f k (([1, 2, 13, 20, 130] : List Int))).bind fun t434 => ((swagelaw21_is.f k bt411.1 t434).bind fun t437 => (some t437))) else (some false)) else (some false)))) else (none)) else (some false)))) else (none)) else (some false)) else (some false)) else (some false)) else (some false))))))))
theorem swagelaw21_works.mono : ∀ k, LeO (swagelaw21_works.f k ) (swagelaw21_works.f (k + 1) ) := by
 intro  k
 unfold swagelaw21_works.f
 repeat' first
   | (with_reducible exact split_Block.mono _ _ _ _ _)
   | (with_reducible exact split_Join.mono _ _ _ _)
   | (with_reducible exact split_Parts.mono _ _ _ _)
   | (with_reducible exact swagelaw21_is.mono _ _ _)
   | (with_reducible exact swagelaw21_list.mono _ _)
   | (with_reducible exact swagelaw21_ref.mono _ _)
   | (with_reducible exact LeO.refl _)
   | (with_reducible exact LeO.none _)
   | (with_reducible refine LeO.ite ?_ ?_)
   | (with_reducible refine LeO.bind ?_ (fun _ => ?_))
   | exact split_Block.mono _ _ _ _ _
   | exact split_Join.mono _ _ _ _
   | exact split_Parts.mono _ _ _ _
   | exact swagelaw21_is.mono _ _ _
   | exact swagelaw21_list.mono _ _
   | exact swagelaw21_ref.mono _ _
   | exact LeO.none _
   | refine LeO.ite ?_ ?_
   | refine LeO.bind ?_ (fun _ => ?_)
def swagelaw21_works.T4 : Bool × List (List Nat × List Nat) := (true, [([], []), ([0], [0]), ([1], [1]), ([2], [2]), ([3, 2], [2, 3]), ([2, 4], [2, 4]), ([5, 2], [5]), ([6], [6]), ([7, 6], [6, 7]), ([6, 8], [6, 8]), ([9, 6], [9]), ([10], [10]), ([11, 10], [10, 11]), ([12, 10], [10, 12]), ([10, 13], [10, 13]), ([14, 10], [14]), ([15], [15]), ([16, 15], [15, 16]), ([17, 15], [15, 17]), ([15], [15]), ([19, 15, 15], [15, 19]), ([18, 20, 20, 15], [15, 18, 20]), ([15, 21], [15, 21]), ([22, 21], [22]), ([23], [23]), ([24, 23], [23, 24]), ([25, 23], [23, 25]), ([23], [23]), ([27, 23, 23], [23, 27]), ([26, 28, 28, 23], [23, 26, 28]), ([23, 29], [23, 29]), ([30, 29], [30]), ([31], [31]), ([32, 31], [31, 32]), ([31, 33], [31, 33]), ([34, 31], [34]), ([35], [35]), ([35], [35]), ([37, 35, 35], [35, 37]), ([36, 38, 38, 35], [35, 36, 38]), ([35, 39], [35, 39]), ([40, 39, 0, 1, 2, 3, 4, 5, 6, 7, 8, 9, 10, 11, 12, 13, 14, 15, 16, 17, 18, 19, 20, 21, 22, 23, 24, 25, 26, 27, 28, 29, 30, 31, 32, 33, 34, 35, 36, 37, 38, 39, 40], [40])])
def swagelaw21_works.B4 : List Nat := [0, 1, 3, 7, 15, 31, 63, 127, 255, 511, 1023, 2047, 4095, 8191, 16383, 32767, 65535, 131071, 262143, 65535, 589823, 2097151, 4194303, 8388607, 16777215, 33554431, 67108863, 16777215, 150994943, 536870911, 1073741823, 2147483647, 4294967295, 8589934591, 17179869183, 34359738367, 68719476735, 68719476735, 206158430207, 549755813887, 1099511627775, 2199023255551]
theorem swagelaw21_works.tab4 : rtab .any (opsOf Tryd.f10 4) = swagelaw21_works.T4 := by kernel_rfl
theorem swagelaw21_works.bits4 : waitsOk swagelaw21_works.T4.2 swagelaw21_works.B4 = true := by kernel_rfl
theorem swagelaw21_works.tells (k : Nat) (r : Bool) (h : swagelaw21_works.f k = some r) : r = true := by
 have h8 : swagelaw21_works.f 90 = some true := by decide +kernel
 rcases Nat.le_total k 90 with hk | hk
 ·have h9 := at_rounds (fun k => swagelaw21_works.mono k) hk h
  rw [h8] at h9
  exact (Option.some.inj h9).symm
 ·have h9 := at_rounds (fun k => swagelaw21_works.mono k) hk h8
  rw [h] at h9
  exact Option.some.inj h9
set_option maxHeartbeats 8000000 in
set_option maxRecDepth 100000 in
theorem swagelaw21_works.calls (k : Nat)  (r : Bool) (w : World) (h : swagelaw21_works.f k  = some r) :
  Calls Tryd.prog 10 #[] w fun e w' => e = .returned (.bool r) ∧ Below w.heap.size w w' := by
 have hT : Aside0 (r = true) := ⟨swagelaw21_works.tells k r h⟩
 have HB := Aside0.mk (Below.refl w.heap.size w)
 have H : ((swagelaw21_list.f k (([1, 2, 3, 4, 5] : List Int))).bind fun t381 => ((split_Parts.f k t381 2 3).bind fun bt384 => ((split_Block.f k 7 5 3 2).bind fun bt388 => ((swagelaw21_list.f k (([1, 2, 3] : List Int))).bind fun t393 => ((swagelaw21_list.f k (([10, 20, 30] : List Int))).bind fun t399 => ((swagelaw21_list.f k (([100] : List Int))).bind fun t405 => ((split_Join.f k (([t393, t399, t405] : List (List (S39)))) 2 5).bind fun bt411 => (if bt384.2 = 0 then (if bt388.2 = 0 then (if bt411.2 = 0 then (if (bt384.1.length : Int) = 2 then (if 0 < (bt384.1.length : Int) then ((swagelaw21_ref.f k (([1, 2, 3] : List Int))).bind fun t419 => ((swagelaw21_is.f k (rd_L5 bt384.1 0) t419).bind fun t422 => (if t422 = true then (if 1 < (bt384.1.length : Int) then ((swagelaw21_ref.f k (([4, 5, 0] : List Int))).bind fun t427 => ((swagelaw21_is.f k (rd_L5 bt384.1 1) t427).bind fun t430 => (if t430 = true then (if bt388.1 = 3 then ((swagelaw21_ref.f k (([1, 2, 13, 20, 130] : List Int))).bind fun t434 => ((swagelaw21_is.f k bt411.1 t434).bind fun t437 => (some t437))) else (some false)) else (some false)))) else (none)) else (some false)))) else (none)) else (some false)) else (some false)) else (some false)) else (some false))))))))) = some r := h
 clear h
 obtain ⟨y378, hy378⟩ : ∃ y_ : List Int, y_ = (([1, 2, 3, 4, 5] : List Int)) := ⟨_, rfl⟩
 replace H : ((swagelaw21_list.f k y378).bind fun t381 => ((split_Parts.f k t381 2 3).bind fun bt384 => ((split_Block.f k 7 5 3 2).bind fun bt388 => ((swagelaw21_list.f k (([1, 2, 3] : List Int))).bind fun t393 => ((swagelaw21_list.f k (([10, 20, 30] : List Int))).bind fun t399 => ((swagelaw21_list.f k (([100] : List Int))).bind fun t405 => ((split_Join.f k (([t393, t399, t405] : List (List (S39)))) 2 5).bind fun bt411 => (if bt384.2 = 0 then (if bt388.2 = 0 then (if bt411.2 = 0 then (if (bt384.1.length : Int) = 2 then (if 0 < (bt384.1.length : Int) then ((swagelaw21_ref.f k (([1, 2, 3] : List Int))).bind fun t419 => ((swagelaw21_is.f k (rd_L5 bt384.1 0) t419).bind fun t422 => (if t422 = true then (if 1 < (bt384.1.length : Int) then ((swagelaw21_ref.f k (([4, 5, 0] : List Int))).bind fun t427 => ((swagelaw21_is.f k (rd_L5 bt384.1 1) t427).bind fun t430 => (if t430 = true then (if bt388.1 = 3 then ((swagelaw21_ref.f k (([1, 2, 13, 20, 130] : List Int))).bind fun t434 => ((swagelaw21_is.f k bt411.1 t434).bind fun t437 => (some t437))) else (some false)) else (some false)))) else (none)) else (some false)))) else (none)) else (some false)) else (some false)) else (some false)) else (some false))))))))) = some r := by first | (rw [hy378]; with_reducible exact H) | (have H2_ := (Option.bind_some _ _).symm.trans H; rw [hy378]; with_reducible exact H2_) | (have H2_ := (Option.bind_some _ _).symm.trans H; with_reducible exact H2_) | with_reducible exact H | (rw [hy378]; exact H) | exact H
 have Ny378 := Aside0.mk hy378
 clear hy378
 replace H := Option.bind_eq_some_iff.mp H
 obtain ⟨t381, A10, H⟩ := H
 replace H : ((split_Parts.f k t381 2 3).bind fun bt384 => ((split_Block.f k 7 5 3 2).bind fun bt388 => ((swagelaw21_list.f k (([1, 2, 3] : List Int))).bind fun t393 => ((swagelaw21_list.f k (([10, 20, 30] : List Int))).bind fun t399 => ((swagelaw21_list.f k (([100] : List Int))).bind fun t405 => ((split_Join.f k (([t393, t399, t405] : List (List (S39)))) 2 5).bind fun bt411 => (if bt384.2 = 0 then (if bt388.2 = 0 then (if bt411.2 = 0 then (if (bt384.1.length : Int) = 2 then (if 0 < (bt384.1.length : Int) then ((swagelaw21_ref.f k (([1, 2, 3] : List Int))).bind fun t419 => ((swagelaw21_is.f k (rd_L5 bt384.1 0) t419).bind fun t422 => (if t422 = true then (if 1 < (bt384.1.length : Int) then ((swagelaw21_ref.f k (([4, 5, 0] : List Int))).bind fun t427 => ((swagelaw21_is.f k (rd_L5 bt384.1 1) t427).bind fun t430 => (if t430 = true then (if bt388.1 = 3 then ((swagelaw21_ref.f k (([1, 2, 13, 20, 130] : List Int))).bind fun t434 => ((swagelaw21_is.f k bt411.1 t434).bind fun t437 => (some t437))) else (some false)) else (some false)))) else (none)) else (some false)))) else (none)) else (some false)) else (some false)) else (some false)) else (some false)))))))) = some r := H
 have A1 := Aside0.mk A10
 clear A10
 replace H := Option.bind_eq_some_iff.mp H
 obtain ⟨⟨t384, t387⟩, A20, H⟩ := H
 replace H : ((split_Block.f k 7 5 3 2).bind fun bt388 => ((swagelaw21_list.f k (([1, 2, 3] : List Int))).bind fun t393 => ((swagelaw21_list.f k (([10, 20, 30] : List Int))).bind fun t399 => ((swagelaw21_list.f k (([100] : List Int))).bind fun t405 => ((split_Join.f k (([t393, t399, t405] : List (List (S39)))) 2 5).bind fun bt411 => (if t387 = 0 then (if bt388.2 = 0 then (if bt411.2 = 0 then (if (t384.length : Int) = 2 then (if 0 < (t384.length : Int) then ((swagelaw21_ref.f k (([1, 2, 3] : List Int))).bind fun t419 => ((swagelaw21_is.f k (rd_L5 t384 0) t419).bind fun t422 => (if t422 = true then (if 1 < (t384.length : Int) then ((swagelaw21_ref.f k (([4, 5, 0] : List Int))).bind fun t427 => ((swagelaw21_is.f k (rd_L5 t384 1) t427).bind fun t430 => (if t430 = true then (if bt388.1 = 3 then ((swagelaw21_ref.f k (([1, 2, 13, 20, 130] : List Int))).bind fun t434 => ((swagelaw21_is.f k bt411.1 t434).bind fun t437 => (some t437))) else (some false)) else (some false)))) else (none)) else (some false)))) else (none)) else (some false)) else (some false)) else (some false)) else (some false))))))) = some r := H
 have A2 := Aside0.mk A20
 clear A20
 replace H := Option.bind_eq_some_iff.mp H
 obtain ⟨⟨t388, t389⟩, A30, H⟩ := H
 replace H : ((swagelaw21_list.f k (([1, 2, 3] : List Int))).bind fun t393 => ((swagelaw21_list.f k (([10, 20, 30] : List Int))).bind fun t399 => ((swagelaw21_list.f k (([100] : List Int))).bind fun t405 => ((split_Join.f k (([t393, t399, t405] : List (List (S39)))) 2 5).bind fun bt411 => (if t387 = 0 then (if t389 = 0 then (if bt411.2 = 0 then (if (t384.length : Int) = 2 then (if 0 < (t384.length : Int) then ((swagelaw21_ref.f k (([1, 2, 3] : List Int))).bind fun t419 => ((swagelaw21_is.f k (rd_L5 t384 0) t419).bind fun t422 => (if t422 = true then (if 1 < (t384.length : Int) then ((swagelaw21_ref.f k (([4, 5, 0] : List Int))).bind fun t427 => ((swagelaw21_is.f k (rd_L5 t384 1) t427).bind fun t430 => (if t430 = true then (if t388 = 3 then ((swagelaw21_ref.f k (([1, 2, 13, 20, 130] : List Int))).bind fun t434 => ((swagelaw21_is.f k bt411.1 t434).bind fun t437 => (some t437))) else (some false)) else (some false)))) else (none)) else (some false)))) else (none)) else (some false)) else (some false)) else (some false)) else (some false)))))) = some r := H
 have A3 := Aside0.mk A30
 clear A30
 obtain ⟨y390, hy390⟩ : ∃ y_ : List Int, y_ = (([1, 2, 3] : List Int)) := ⟨_, rfl⟩
 replace H : ((swagelaw21_list.f k y390).bind fun t393 => ((swagelaw21_list.f k (([10, 20, 30] : List Int))).bind fun t399 => ((swagelaw21_list.f k (([100] : List Int))).bind fun t405 => ((split_Join.f k (([t393, t399, t405] : List (List (S39)))) 2 5).bind fun bt411 => (if t387 = 0 then (if t389 = 0 then (if bt411.2 = 0 then (if (t384.length : Int) = 2 then (if 0 < (t384.length : Int) then ((swagelaw21_ref.f k (([1, 2, 3] : List Int))).bind fun t419 => ((swagelaw21_is.f k (rd_L5 t384 0) t419).bind fun t422 => (if t422 = true then (if 1 < (t384.length : Int) then ((swagelaw21_ref.f k (([4, 5, 0] : List Int))).bind fun t427 => ((swagelaw21_is.f k (rd_L5 t384 1) t427).bind fun t430 => (if t430 = true then (if t388 = 3 then ((swagelaw21_ref.f k (([1, 2, 13, 20, 130] : List Int))).bind fun t434 => ((swagelaw21_is.f k bt411.1 t434).bind fun t437 => (some t437))) else (some false)) else (some false)))) else (none)) else (some false)))) else (none)) else (some false)) else (some false)) else (some false)) else (some false)))))) = some r := by first | (rw [hy390]; with_reducible exact H) | (have H2_ := (Option.bind_some _ _).symm.trans H; rw [hy390]; with_reducible exact H2_) | (have H2_ := (Option.bind_some _ _).symm.trans H; with_reducible exact H2_) | with_reducible exact H | (rw [hy390]; exact H) | exact H
 have Ny390 := Aside0.mk hy390
 clear hy390
 replace H := Option.bind_eq_some_iff.mp H
 obtain ⟨t393, A40, H⟩ := H
 replace H : ((swagelaw21_list.f k (([10, 20, 30] : List Int))).bind fun t399 => ((swagelaw21_list.f k (([100] : List Int))).bind fun t405 => ((split_Join.f k (([t393, t399, t405] : List (List (S39)))) 2 5).bind fun bt411 => (if t387 = 0 then (if t389 = 0 then (if bt411.2 = 0 then (if (t384.length : Int) = 2 then (if 0 < (t384.length : Int) then ((swagelaw21_ref.f k (([1, 2, 3] : List Int))).bind fun t419 => ((swagelaw21_is.f k (rd_L5 t384 0) t419).bind fun t422 => (if t422 = true then (if 1 < (t384.length : Int) then ((swagelaw21_ref.f k (([4, 5, 0] : List Int))).bind fun t427 => ((swagelaw21_is.f k (rd_L5 t384 1) t427).bind fun t430 => (if t430 = true then (if t388 = 3 then ((swagelaw21_ref.f k (([1, 2, 13, 20, 130] : List Int))).bind fun t434 => ((swagelaw21_is.f k bt411.1 t434).bind fun t437 => (some t437))) else (some false)) else (some false)))) else (none)) else (some false)))) else (none)) else (some false)) else (some false)) else (some false)) else (some false))))) = some r := H
 have A4 := Aside0.mk A40
 clear A40
 obtain ⟨y396, hy396⟩ : ∃ y_ : List Int, y_ = (([10, 20, 30] : List Int)) := ⟨_, rfl⟩
 replace H : ((swagelaw21_list.f k y396).bind fun t399 => ((swagelaw21_list.f k (([100] : List Int))).bind fun t405 => ((split_Join.f k (([t393, t399, t405] : List (List (S39)))) 2 5).bind fun bt411 => (if t387 = 0 then (if t389 = 0 then (if bt411.2 = 0 then (if (t384.length : Int) = 2 then (if 0 < (t384.length : Int) then ((swagelaw21_ref.f k (([1, 2, 3] : List Int))).bind fun t419 => ((swagelaw21_is.f k (rd_L5 t384 0) t419).bind fun t422 => (if t422 = true then (if 1 < (t384.length : Int) then ((swagelaw21_ref.f k (([4, 5, 0] : List Int))).bind fun t427 => ((swagelaw21_is.f k (rd_L5 t384 1) t427).bind fun t430 => (if t430 = true then (if t388 = 3 then ((swagelaw21_ref.f k (([1, 2, 13, 20, 130] : List Int))).bind fun t434 => ((swagelaw21_is.f k bt411.1 t434).bind fun t437 => (some t437))) else (some false)) else (some false)))) else (none)) else (some false)))) else (none)) else (some false)) else (some false)) else (some false)) else (some false))))) = some r := by first | (rw [hy396]; with_reducible exact H) | (have H2_ := (Option.bind_some _ _).symm.trans H; rw [hy396]; with_reducible exact H2_) | (have H2_ := (Option.bind_some _ _).symm.trans H; with_reducible exact H2_) | with_reducible exact H | (rw [hy396]; exact H) | exact H
 have Ny396 := Aside0.mk hy396
 clear hy396
 replace H := Option.bind_eq_some_iff.mp H
 obtain ⟨t399, A50, H⟩ := H
 replace H : ((swagelaw21_list.f k (([100] : List Int))).bind fun t405 => ((split_Join.f k (([t393, t399, t405] : List (List (S39)))) 2 5).bind fun bt411 => (if t387 = 0 then (if t389 = 0 then (if bt411.2 = 0 then (if (t384.length : Int) = 2 then (if 0 < (t384.length : Int) then ((swagelaw21_ref.f k (([1, 2, 3] : List Int))).bind fun t419 => ((swagelaw21_is.f k (rd_L5 t384 0) t419).bind fun t422 => (if t422 = true then (if 1 < (t384.length : Int) then ((swagelaw21_ref.f k (([4, 5, 0] : List Int))).bind fun t427 => ((swagelaw21_is.f k (rd_L5 t384 1) t427).bind fun t430 => (if t430 = true then (if t388 = 3 then ((swagelaw21_ref.f k (([1, 2, 13, 20, 130] : List Int))).bind fun t434 => ((swagelaw21_is.f k bt411.1 t434).bind fun t437 => (some t437))) else (some false)) else (some false)))) else (none)) else (some false)))) else (none)) else (some false)) else (some false)) else (some false)) else (some false)))) = some r := H
 have A5 := Aside0.mk A50
 clear A50
 obtain ⟨y402, hy402⟩ : ∃ y_ : List Int, y_ = (([100] : List Int)) := ⟨_, rfl⟩
 replace H : ((swagelaw21_list.f k y402).bind fun t405 => ((split_Join.f k (([t393, t399, t405] : List (List (S39)))) 2 5).bind fun bt411 => (if t387 = 0 then (if t389 = 0 then (if bt411.2 = 0 then (if (t384.length : Int) = 2 then (if 0 < (t384.length : Int) then ((swagelaw21_ref.f k (([1, 2, 3] : List Int))).bind fun t419 => ((swagelaw21_is.f k (rd_L5 t384 0) t419).bind fun t422 => (if t422 = true then (if 1 < (t384.length : Int) then ((swagelaw21_ref.f k (([4, 5, 0] : List Int))).bind fun t427 => ((swagelaw21_is.f k (rd_L5 t384 1) t427).bind fun t430 => (if t430 = true then (if t388 = 3 then ((swagelaw21_ref.f k (([1, 2, 13, 20, 130] : List Int))).bind fun t434 => ((swagelaw21_is.f k bt411.1 t434).bind fun t437 => (some t437))) else (some false)) else (some false)))) else (none)) else (some false)))) else (none)) else (some false)) else (some false)) else (some false)) else (some false)))) = some r := by first | (rw [hy402]; with_reducible exact H) | (have H2_ := (Option.bind_some _ _).symm.trans H; rw [hy402]; with_reducible exact H2_) | (have H2_ := (Option.bind_some _ _).symm.trans H; with_reducible exact H2_) | with_reducible exact H | (rw [hy402]; exact H) | exact H
 have Ny402 := Aside0.mk hy402
 clear hy402
 replace H := Option.bind_eq_some_iff.mp H
 obtain ⟨t405, A60, H⟩ := H
 replace H : ((split_Join.f k (([t393, t399, t405] : List (List (S39)))) 2 5).bind fun bt411 => (if t387 = 0 then (if t389 = 0 then (if bt411.2 = 0 then (if (t384.length : Int) = 2 then (if 0 < (t384.length : Int) then ((swagelaw21_ref.f k (([1, 2, 3] : List Int))).bind fun t419 => ((swagelaw21_is.f k (rd_L5 t384 0) t419).bind fun t422 => (if t422 = true then (if 1 < (t384.length : Int) then ((swagelaw21_ref.f k (([4, 5, 0] : List Int))).bind fun t427 => ((swagelaw21_is.f k (rd_L5 t384 1) t427).bind fun t430 => (if t430 = true then (if t388 = 3 then ((swagelaw21_ref.f k (([1, 2, 13, 20, 130] : List Int))).bind fun t434 => ((swagelaw21_is.f k bt411.1 t434).bind fun t437 => (some t437))) else (some false)) else (some false)))) else (none)) else (some false)))) else (none)) else (some false)) else (some false)) else (some false)) else (some false))) = some r := H
 have A6 := Aside0.mk A60
 clear A60
 obtain ⟨y408, hy408⟩ : ∃ y_ : List (List (S39)), y_ = (([t393, t399, t405] : List (List (S39)))) := ⟨_, rfl⟩
 replace H : ((split_Join.f k y408 2 5).bind fun bt411 => (if t387 = 0 then (if t389 = 0 then (if bt411.2 = 0 then (if (t384.length : Int) = 2 then (if 0 < (t384.length : Int) then ((swagelaw21_ref.f k (([1, 2, 3] : List Int))).bind fun t419 => ((swagelaw21_is.f k (rd_L5 t384 0) t419).bind fun t422 => (if t422 = true then (if 1 < (t384.length : Int) then ((swagelaw21_ref.f k (([4, 5, 0] : List Int))).bind fun t427 => ((swagelaw21_is.f k (rd_L5 t384 1) t427).bind fun t430 => (if t430 = true then (if t388 = 3 then ((swagelaw21_ref.f k (([1, 2, 13, 20, 130] : List Int))).bind fun t434 => ((swagelaw21_is.f k bt411.1 t434).bind fun t437 => (some t437))) else (some false)) else (some false)))) else (none)) else (some false)))) else (none)) else (some false)) else (some false)) else (some false)) else (some false))) = some r := by first | (rw [hy408]; with_reducible exact H) | (have H2_ := (Option.bind_some _ _).symm.trans H; rw [hy408]; with_reducible exact H2_) | (have H2_ := (Option.bind_some _ _).symm.trans H; with_reducible exact H2_) | with_reducible exact H | (rw [hy408]; exact H) | exact H
 have Ny408 := Aside0.mk hy408
 clear hy408
 replace H := Option.bind_eq_some_iff.mp H
 obtain ⟨⟨t411, t414⟩, A70, H⟩ := H
 replace H : (if t387 = 0 then (if t389 = 0 then (if t414 = 0 then (if (t384.length : Int) = 2 then (if 0 < (t384.length : Int) then ((swagelaw21_ref.f k (([1, 2, 3] : List Int))).bind fun t419 => ((swagelaw21_is.f k (rd_L5 t384 0) t419).bind fun t422 => (if t422 = true then (if 1 < (t384.length : Int) then ((swagelaw21_ref.f k (([4, 5, 0] : List Int))).bind fun t427 => ((swagelaw21_is.f k (rd_L5 t384 1) t427).bind fun t430 => (if t430 = true then (if t388 = 3 then ((swagelaw21_ref.f k (([1, 2, 13, 20, 130] : List Int))).bind fun t434 => ((swagelaw21_is.f k t411 t434).bind fun t437 => (some t437))) else (some false)) else (some false)))) else (none)) else (some false)))) else (none)) else (some false)) else (some false)) else (some false)) else (some false)) = some r := H
 have A7 := Aside0.mk A70
 clear A70
 by_cases c8 : t387 = 0
 ·rw [if_pos c8] at H
  have c8b0 : (t387 == 0) = true := beq_iff_eq.mpr c8
  have c8b1 : (t387 != 0) = false := bne_eq_false_iff_eq.mpr c8
  clear c8
  by_cases c9 : t389 = 0
  ·rw [if_pos c9] at H
   have c9b0 : (t389 == 0) = true := beq_iff_eq.mpr c9
   have c9b1 : (t389 != 0) = false := bne_eq_false_iff_eq.mpr c9
   clear c9
   by_cases c10 : t414 = 0
   ·rw [if_pos c10] at H
    have c10b0 : (t414 == 0) = true := beq_iff_eq.mpr c10
    have c10b1 : (t414 != 0) = false := bne_eq_false_iff_eq.mpr c10
    clear c10
    by_cases c11 : (t384.length : Int) = 2
    ·rw [if_pos c11] at H
     have c11b0 : ((t384.length : Int) == 2) = true := beq_iff_eq.mpr c11
     have c11b1 : ((t384.length : Int) != 2) = false := bne_eq_false_iff_eq.mpr c11
     clear c11
     by_cases c12 : 0 < (t384.length : Int)
     ·rw [if_pos c12] at H
      have c12b0 : decide (0 < (t384.length : Int)) = true := decide_eq_true c12
      have c12b1 : decide (0 < t384.length) = true := decide_eq_true (by omega)
      clear c12
      obtain ⟨y416, hy416⟩ : ∃ y_ : List Int, y_ = (([1, 2, 3] : List Int)) := ⟨_, rfl⟩
      replace H : ((swagelaw21_ref.f k y416).bind fun t419 => ((swagelaw21_is.f k (rd_L5 t384 0) t419).bind fun t422 => (if t422 = true then (if 1 < (t384.length : Int) then ((swagelaw21_ref.f k (([4, 5, 0] : List Int))).bind fun t427 => ((swagelaw21_is.f k (rd_L5 t384 1) t427).bind fun t430 => (if t430 = true then (if t388 = 3 then ((swagelaw21_ref.f k (([1, 2, 13, 20, 130] : List Int))).bind fun t434 => ((swagelaw21_is.f k t411 t434).bind fun t437 => (some t437))) else (some false)) else (some false)))) else (none)) else (some false)))) = some r := by first | (rw [hy416]; with_reducible exact H) | (have H2_ := (Option.bind_some _ _).symm.trans H; rw [hy416]; with_reducible exact H2_) | (have H2_ := (Option.bind_some _ _).symm.trans H; with_reducible exact H2_) | with_reducible exact H | (rw [hy416]; exact H) | exact H
      have Ny416 := Aside0.mk hy416
      clear hy416
      replace H := Option.bind_eq_some_iff.mp H
      obtain ⟨t419, A130, H⟩ := H
      replace H : ((swagelaw21_is.f k (rd_L5 t384 0) t419).bind fun t422 => (if t422 = true then (if 1 < (t384.length : Int) then ((swagelaw21_ref.f k (([4, 5, 0] : List Int))).bind fun t427 => ((swagelaw21_is.f k (rd_L5 t384 1) t427).bind fun t430 => (if t430 = true then (if t388 = 3 then ((swagelaw21_ref.f k (([1, 2, 13, 20, 130] : List Int))).bind fun t434 => ((swagelaw21_is.f k t411 t434).bind fun t437 => (some t437))) else (some false)) else (some false)))) else (none)) else (some false))) = some r := H
      have A13 := Aside0.mk A130
      clear A130
      replace H := Option.bind_eq_some_iff.mp H
      obtain ⟨t422, A140, H⟩ := H
      replace H : (if t422 = true then (if 1 < (t384.length : Int) then ((swagelaw21_ref.f k (([4, 5, 0] : List Int))).bind fun t427 => ((swagelaw21_is.f k (rd_L5 t384 1) t427).bind fun t430 => (if t430 = true then (if t388 = 3 then ((swagelaw21_ref.f k (([1, 2, 13, 20, 130] : List Int))).bind fun t434 => ((swagelaw21_is.f k t411 t434).bind fun t437 => (some t437))) else (some false)) else (some false)))) else (none)) else (some false)) = some r := H
      have A14 := Aside0.mk A140
      clear A140
      by_cases c15 : t422 = true
      ·subst c15
       have H1 : (if 1 < (t384.length : Int) then ((swagelaw21_ref.f k (([4, 5, 0] : List Int))).bind fun t427 => ((swagelaw21_is.f k (rd_L5 t384 1) t427).bind fun t430 => (if t430 = true then (if t388 = 3 then ((swagelaw21_ref.f k (([1, 2, 13, 20, 130] : List Int))).bind fun t434 => ((swagelaw21_is.f k t411 t434).bind fun t437 => (some t437))) else (some false)) else (some false)))) else (none)) = some r := by rw [if_pos rfl] at H; exact H
       clear H
       have H := H1
       clear H1
       by_cases c16 : 1 < (t384.length : Int)
       ·rw [if_pos c16] at H
        have c16b0 : decide (1 < (t384.length : Int)) = true := decide_eq_true c16
        have c16b1 : decide (1 < t384.length) = true := decide_eq_true (by omega)
        clear c16
        obtain ⟨y424, hy424⟩ : ∃ y_ : List Int, y_ = (([4, 5, 0] : List Int)) := ⟨_, rfl⟩
        replace H : ((swagelaw21_ref.f k y424).bind fun t427 => ((swagelaw21_is.f k (rd_L5 t384 1) t427).bind fun t430 => (if t430 = true then (if t388 = 3 then ((swagelaw21_ref.f k (([1, 2, 13, 20, 130] : List Int))).bind fun t434 => ((swagelaw21_is.f k t411 t434).bind fun t437 => (some t437))) else (some false)) else (some false)))) = some r := by first | (rw [hy424]; with_reducible exact H) | (have H2_ := (Option.bind_some _ _).symm.trans H; rw [hy424]; with_reducible exact H2_) | (have H2_ := (Option.bind_some _ _).symm.trans H; with_reducible exact H2_) | with_reducible exact H | (rw [hy424]; exact H) | exact H
        have Ny424 := Aside0.mk hy424
        clear hy424
        replace H := Option.bind_eq_some_iff.mp H
        obtain ⟨t427, A170, H⟩ := H
        replace H : ((swagelaw21_is.f k (rd_L5 t384 1) t427).bind fun t430 => (if t430 = true then (if t388 = 3 then ((swagelaw21_ref.f k (([1, 2, 13, 20, 130] : List Int))).bind fun t434 => ((swagelaw21_is.f k t411 t434).bind fun t437 => (some t437))) else (some false)) else (some false))) = some r := H
        have A17 := Aside0.mk A170
        clear A170
        replace H := Option.bind_eq_some_iff.mp H
        obtain ⟨t430, A180, H⟩ := H
        replace H : (if t430 = true then (if t388 = 3 then ((swagelaw21_ref.f k (([1, 2, 13, 20, 130] : List Int))).bind fun t434 => ((swagelaw21_is.f k t411 t434).bind fun t437 => (some t437))) else (some false)) else (some false)) = some r := H
        have A18 := Aside0.mk A180
        clear A180
        by_cases c19 : t430 = true
        ·subst c19
         have H1 : (if t388 = 3 then ((swagelaw21_ref.f k (([1, 2, 13, 20, 130] : List Int))).bind fun t434 => ((swagelaw21_is.f k t411 t434).bind fun t437 => (some t437))) else (some false)) = some r := by rw [if_pos rfl] at H; exact H
         clear H
         have H := H1
         clear H1
         by_cases c20 : t388 = 3
         ·rw [if_pos c20] at H
          have c20b0 : (t388 == 3) = true := beq_iff_eq.mpr c20
          have c20b1 : (t388 != 3) = false := bne_eq_false_iff_eq.mpr c20
          clear c20
          obtain ⟨y431, hy431⟩ : ∃ y_ : List Int, y_ = (([1, 2, 13, 20, 130] : List Int)) := ⟨_, rfl⟩
          replace H : ((swagelaw21_ref.f k y431).bind fun t434 => ((swagelaw21_is.f k t411 t434).bind fun t437 => (some t437))) = some r := by first | (rw [hy431]; with_reducible exact H) | (have H2_ := (Option.bind_some _ _).symm.trans H; rw [hy431]; with_reducible exact H2_) | (have H2_ := (Option.bind_some _ _).symm.trans H; with_reducible exact H2_) | with_reducible exact H | (rw [hy431]; exact H) | exact H
          have Ny431 := Aside0.mk hy431
          clear hy431
          replace H := Option.bind_eq_some_iff.mp H
          obtain ⟨t434, A210, H⟩ := H
          replace H : ((swagelaw21_is.f k t411 t434).bind fun t437 => (some t437)) = some r := H
          have A21 := Aside0.mk A210
          clear A210
          replace H := Option.bind_eq_some_iff.mp H
          obtain ⟨t437, A220, H⟩ := H
          replace H : (some t437) = some r := H
          have A22 := Aside0.mk A220
          clear A220
          obtain rfl := Option.some.inj H
          go_enter Tryd.func10, Tryd.ntmps10
          try go_wp2_with (first | ((with_reducible refine gate_dst (N := 8) rfl ?_); (try (refine gate_guard (by rfl) ?_; dsimp only)); refine Kd.R_lit (Kd.int .i64) _ 2 ?hg (N := 8) ?hd (xs := ([1, 2, 3, 4, 5] : List Int)) (inner := [.int .i64 1, .int .i64 2, .int .i64 3, .int .i64 4, .int .i64 5]) (ok := fun _ => True) (okp := fun _ => True) ?hr ?hp (fun _ hk => hk) trivial (Below.refl _ _) (Nat.le_refl _) (by simp) ?_; (case hd => rfl); (case hg => rfl); (case hr => first | (go_simp; done) | (go_simp; rfl)); (case hp => exact (Reps.one (show Kd.M (Kd.int .i64) _ _ _ 1 [.int .i64 1] from rfl) (Reps.one (show Kd.M (Kd.int .i64) _ _ _ 2 [.int .i64 2] from rfl) (Reps.one (show Kd.M (Kd.int .i64) _ _ _ 3 [.int .i64 3] from rfl) (Reps.one (show Kd.M (Kd.int .i64) _ _ _ 4 [.int .i64 4] from rfl) (Reps.one (show Kd.M (Kd.int .i64) _ _ _ 5 [.int .i64 5] from rfl) (Reps.none _ _))))))); intro v379 w23 ho24 hb hg_ hnew_; clear hg_ hnew_; (first | rw [← Ny378.out] at ho24 | (simp only [Int.reduceToNat] at ho24; rw [← Ny378.out] at ho24)); have n0_ := Aside0.mk (Kd.R_lower ho24 (below_size (lB HB))); have n1_ := Aside0.mk (below_step (lB HB) hb); clear HB; have HO380 := n0_; have HB := n1_; clear n0_ n1_; clear hb ho24; obtain ⟨Ao25, co25, eo25⟩ := Kd.R_slice HO380.out; subst eo25) | ((with_reducible refine gate_callee (f := 11) rfl ?_); refine goesL_ (some 9) rfl rfl Tryd.func11 (by kernel_rfl) rfl #[.slice Ao25 y378.length co25] rfl (by (try simp only [List.map_toArray, List.map_cons, List.map_nil]); first | done | rfl | (simp only [List.length_drop, List.length_take]; rfl)) ?_; (with_reducible refine (swagelaw21_list.calls k _ _ y378 t381 _ ?side1 ?side2 A1.out).mono ?_); (case side1 => repeat (first | exact (Kd.R_reads' HO380.out).2.2 | (with_reducible refine Kd.C_alloc ?_ _) | (with_reducible refine Kd.C_drewN ?_ _) | (with_reducible refine Kd.C_drew ?_))); (case side2 => exact (Kd.R_reads' HO380.out).2.1); rintro e w26 ⟨v382, rfl, ho0, hb⟩; refine ⟨_, rfl, ?_⟩; have n0_ := Aside0.mk (Kd.R_below (lR HO380) hb); have n1_ := Aside0.mk (Kd.N_lower (Kd.N_mono (ok' := fun k_ => some k_ ≠ (.slice Ao25 y378.length co25 : Value).ownBlock) ho0 (fun k_ hk_ => (Kd.fresh' (Kd.R_lt (lR HO380)) k_ hk_))) (below_size (lB HB))); have n2_ := Aside0.mk (below_step (lB HB) hb); clear HO380 HB; have HO380 := n0_; have HO383 := n1_; have HB := n2_; clear n0_ n1_ n2_; (try clear hb); (try clear hb2); (try clear hk); (try clear hi); (try clear ho0); obtain ⟨Ao27, co27, eo27⟩ := Kd.N_slice HO383.out; subst eo27) | ((with_reducible refine gate_callee (f := 12) rfl ?_); refine goesL_ (some 10) rfl rfl Tryd.func12 (by kernel_rfl) rfl #[.slice Ao27 t381.length co27, .int .i64 2, .int .i64 3] rfl (by (try simp only [List.map_toArray, List.map_cons, List.map_nil]); first | done | rfl | (simp only [List.length_drop, List.length_take]; rfl)) ?_; (with_reducible refine (split_Parts.calls k (fun k_ => some k_ ≠ (.slice Ao25 y378.length co25 : Value).ownBlock) _ _ t381 2 3 t384 t387 _ ?side1 A2.out).mono ?_); (case side1 => exact Kd.N_V (HO383.out)); rintro e w28 ⟨v385, rfl, ho0, hb⟩; refine ⟨_, rfl, ?_⟩; have n0_ := Aside0.mk (Kd.R_below (lR HO380) hb); have n1_ := Aside0.mk (Kd.N_elder' (lN HO383) (Kd.N_base ho0) hb); have n2_ := Aside0.mk (Kd.N_lower (Kd.N_mono (ok' := fun k_ => some k_ ≠ (.slice Ao25 y378.length co25 : Value).ownBlock) ho0 (fun k_ hk_ => Or.elim hk_ (fun hs_ => hs_) (fun hn_ => (Kd.fresh' (Kd.R_lt (lR HO380)) k_ hn_)))) (below_size (lB HB))); have n3_ := Aside0.mk (below_step (lB HB) hb); clear HO380 HO383 HB; have HO380 := n0_; have HO383 := n1_; have HO386 := n2_; have HB := n3_; clear n0_ n1_ n2_ n3_; (try clear hb); (try clear hb2); (try clear hk); (try clear hi); (try clear ho0)) | ((with_reducible refine gate_callee (f := 20) rfl ?_); refine goesL_ (some 14) rfl rfl Tryd.func20 (by kernel_rfl) rfl #[.int .i64 7, .int .i64 5, .int .i64 3, .int .i64 2] rfl (by (try simp only [List.map_toArray, List.map_cons, List.map_nil]); first | done | rfl | (simp only [List.length_drop, List.length_take]; rfl)) ?_; (with_reducible refine (split_Block.calls k 7 5 3 2 t388 t389 _ A3.out).mono ?_); rintro e w29 ⟨rfl, hb⟩; refine ⟨_, rfl, ?_⟩; have n0_ := Aside0.mk (Kd.R_below (lR HO380) hb); have n1_ := Aside0.mk (Kd.N_below (lN HO383) hb); have n2_ := Aside0.mk (Kd.N_below (lN HO386) hb); have n3_ := Aside0.mk (below_step (lB HB) hb); clear HO380 HO383 HO386 HB; have HO380 := n0_; have HO383 := n1_; have HO386 := n2_; have HB := n3_; clear n0_ n1_ n2_ n3_; (try clear hb); (try clear hb2); (try clear hk); (try clear hi)) | ((with_reducible refine gate_dst (N := 18) rfl ?_); (try (refine gate_guard (by rfl) ?_; dsimp only)); refine Kd.R_lit (Kd.int .i64) _ 2 ?hg (N := 18) ?hd (xs := ([1, 2, 3] : List Int)) (inner := [.int .i64 1, .int .i64 2, .int .i64 3]) (ok := fun _ => True) (okp := fun _ => True) ?hr ?hp (fun _ hk => hk) trivial (Below.refl _ _) (Nat.le_refl _) (by simp) ?_; (case hd => rfl); (case hg => rfl); (case hr => first | (go_simp; done) | (go_simp; rfl)); (case hp => exact (Reps.one (show Kd.M (Kd.int .i64) _ _ _ 1 [.int .i64 1] from rfl) (Reps.one (show Kd.M (Kd.int .i64) _ _ _ 2 [.int .i64 2] from rfl) (Reps.one (show Kd.M (Kd.int .i64) _ _ _ 3 [.int .i64 3] from rfl) (Reps.none _ _))))); intro v391 w30 ho31 hb hg_ hnew_; clear hg_ hnew_; (first | rw [← Ny390.out] at ho31 | (simp only [Int.reduceToNat] at ho31; rw [← Ny390.out] at ho31)); have n0_ := Aside0.mk (Kd.R_elder' (lR HO380) (Kd.R_base ho31) hb); have n1_ := Aside0.mk (Kd.N_elder' (lN HO383) (Kd.R_base ho31) hb); have n2_ := Aside0.mk (Kd.N_elder' (lN HO386) (Kd.R_base ho31) hb); have n3_ := Aside0.mk (Kd.R_lower (Kd.R_new' ho31 (Kd.R_lt (lR HO380))) (below_size (lB HB))); have n4_ := Aside0.mk (below_step (lB HB) hb); clear HO380 HO383 HO386 HB; have HO380 := n0_; have HO383 := n1_; have HO386 := n2_; have HO392 := n3_; have HB := n4_; clear n0_ n1_ n2_ n3_ n4_; clear hb ho31; obtain ⟨Ao32, co32, eo32⟩ := Kd.R_slice HO392.out; subst eo32) | ((with_reducible refine gate_callee (f := 11) rfl ?_); refine goesL_ (some 19) rfl rfl Tryd.func11 (by kernel_rfl) rfl #[.slice Ao32 y390.length co32] rfl (by (try simp only [List.map_toArray, List.map_cons, List.map_nil]); first | done | rfl | (simp only [List.length_drop, List.length_take]; rfl)) ?_; (with_reducible refine (swagelaw21_list.calls k _ _ y390 t393 _ ?side1 ?side2 A4.out).mono ?_); (case side1 => repeat (first | exact (Kd.R_reads' HO392.out).2.2 | (with_reducible refine Kd.C_alloc ?_ _) | (with_reducible refine Kd.C_drewN ?_ _) | (with_reducible refine Kd.C_drew ?_))); (case side2 => exact (Kd.R_reads' HO392.out).2.1); rintro e w33 ⟨v394, rfl, ho0, hb⟩; refine ⟨_, rfl, ?_⟩; have n0_ := Aside0.mk (Kd.R_below (lR HO380) hb); have n1_ := Aside0.mk (Kd.N_elder' (lN HO383) (Kd.N_base ho0) hb); have n2_ := Aside0.mk (Kd.N_elder' (lN HO386) (Kd.N_base ho0) hb); have n3_ := Aside0.mk (Kd.R_below (lR HO392) hb); have n4_ := Aside0.mk (Kd.N_lower (Kd.N_mono (ok' := fun k_ => some k_ ≠ (.slice Ao25 y378.length co25 : Value).ownBlock ∧ some k_ ≠ (.slice Ao27 t381.length co27 : Value).ownBlock ∧ some k_ ≠ (v385 : Value).ownBlock ∧ some k_ ≠ (.slice Ao32 y390.length co32 : Value).ownBlock) ho0 (fun k_ hk_ => ⟨(Kd.fresh' (Kd.R_lt (lR HO380)) k_ hk_), (Kd.fresh' (Kd.N_lt (lN HO383)) k_ hk_), (Kd.fresh' (Kd.N_lt (lN HO386)) k_ hk_), (Kd.fresh' (Kd.R_lt (lR HO392)) k_ hk_)⟩)) (below_size (lB HB))); have n5_ := Aside0.mk (below_step (lB HB) hb); clear HO380 HO383 HO386 HO392 HB; have HO380 := n0_; have HO383 := n1_; have HO386 := n2_; have HO392 := n3_; have HO395 := n4_; have HB := n5_; clear n0_ n1_ n2_ n3_ n4_ n5_; (try clear hb); (try clear hb2); (try clear hk); (try clear hi); (try clear ho0)) | ((with_reducible refine gate_dst (N := 20) rfl ?_); (try (refine gate_guard (by rfl) ?_; dsimp only)); refine Kd.R_lit (Kd.int .i64) _ 2 ?hg (N := 20) ?hd (xs := ([10, 20, 30] : List Int)) (inner := [.int .i64 10, .int .i64 20, .int .i64 30]) (ok := fun _ => True) (okp := fun _ => True) ?hr ?hp (fun _ hk => hk) trivial (Below.refl _ _) (Nat.le_refl _) (by simp) ?_; (case hd => rfl); (case hg => rfl); (case hr => first | (go_simp; done) | (go_simp; rfl)); (case hp => exact (Reps.one (show Kd.M (Kd.int .i64) _ _ _ 10 [.int .i64 10] from rfl) (Reps.one (show Kd.M (Kd.int .i64) _ _ _ 20 [.int .i64 20] from rfl) (Reps.one (show Kd.M (Kd.int .i64) _ _ _ 30 [.int .i64 30] from rfl) (Reps.none _ _))))); intro v397 w34 ho35 hb hg_ hnew_; clear hg_ hnew_; (first | rw [← Ny396.out] at ho35 | (simp only [Int.reduceToNat] at ho35; rw [← Ny396.out] at ho35)); have n0_ := Aside0.mk (Kd.R_elder' (lR HO380) (Kd.R_base ho35) hb); have n1_ := Aside0.mk (Kd.N_elder' (lN HO383) (Kd.R_base ho35) hb); have n2_ := Aside0.mk (Kd.N_elder' (lN HO386) (Kd.R_base ho35) hb); have n3_ := Aside0.mk (Kd.R_elder' (lR HO392) (Kd.R_base ho35) hb); have n4_ := Aside0.mk (Kd.N_elder' (lN HO395) (Kd.R_base ho35) hb); have n5_ := Aside0.mk (Kd.R_lower (Kd.R_new' (Kd.R_new' ho35 (Kd.R_lt (lR HO380))) (Kd.R_lt (lR HO392))) (below_size (lB HB))); have n6_ := Aside0.mk (below_step (lB HB) hb); clear HO380 HO383 HO386 HO392 HO395 HB; have HO380 := n0_; have HO383 := n1_; have HO386 := n2_; have HO392 := n3_; have HO395 := n4_; have HO398 := n5_; have HB := n6_; clear n0_ n1_ n2_ n3_ n4_ n5_ n6_; clear hb ho35; obtain ⟨Ao36, co36, eo36⟩ := Kd.R_slice HO398.out; subst eo36) | ((with_reducible refine gate_callee (f := 11) rfl ?_); refine goesL_ (some 21) rfl rfl Tryd.func11 (by kernel_rfl) rfl #[.slice Ao36 y396.length co36] rfl (by (try simp only [List.map_toArray, List.map_cons, List.map_nil]); first | done | rfl | (simp only [List.length_drop, List.length_take]; rfl)) ?_; (with_reducible refine (swagelaw21_list.calls k _ _ y396 t399 _ ?side1 ?side2 A5.out).mono ?_); (case side1 => repeat (first | exact (Kd.R_reads' HO398.out).2.2 | (with_reducible refine Kd.C_alloc ?_ _) | (with_reducible refine Kd.C_drewN ?_ _) | (with_reducible refine Kd.C_drew ?_))); (case side2 => exact (Kd.R_reads' HO398.out).2.1); rintro e w37 ⟨v400, rfl, ho0, hb⟩; refine ⟨_, rfl, ?_⟩; have n0_ := Aside0.mk (Kd.R_below (lR HO380) hb); have n1_ := Aside0.mk (Kd.N_elder' (lN HO383) (Kd.N_base ho0) hb); have n2_ := Aside0.mk (Kd.N_elder' (lN HO386) (Kd.N_base ho0) hb); have n3_ := Aside0.mk (Kd.R_below (lR HO392) hb); have n4_ := Aside0.mk (Kd.N_elder' (lN HO395) (Kd.N_base ho0) hb); have n5_ := Aside0.mk (Kd.R_below (lR HO398) hb); have n6_ := Aside0.mk (Kd.N_lower (Kd.N_mono (ok' := fun k_ => some k_ ≠ (.slice Ao25 y378.length co25 : Value).ownBlock ∧ some k_ ≠ (.slice Ao27 t381.length co27 : Value).ownBlock ∧ some k_ ≠ (v385 : Value).ownBlock ∧ some k_ ≠ (.slice Ao32 y390.length co32 : Value).ownBlock ∧ some k_ ≠ (v394 : Value).ownBlock ∧ some k_ ≠ (.slice Ao36 y396.length co36 : Value).ownBlock) ho0 (fun k_ hk_ => ⟨(Kd.fresh' (Kd.R_lt (lR HO380)) k_ hk_), (Kd.fresh' (Kd.N_lt (lN HO383)) k_ hk_), (Kd.fresh' (Kd.N_lt (lN HO386)) k_ hk_), (Kd.fresh' (Kd.R_lt (lR HO392)) k_ hk_), (Kd.fresh' (Kd.N_lt (lN HO395)) k_ hk_), (Kd.fresh' (Kd.R_lt (lR HO398)) k_ hk_)⟩)) (below_size (lB HB))); have n7_ := Aside0.mk (below_step (lB HB) hb); clear HO380 HO383 HO386 HO392 HO395 HO398 HB; have HO380 := n0_; have HO383 := n1_; have HO386 := n2_; have HO392 := n3_; have HO395 := n4_; have HO398 := n5_; have HO401 := n6_; have HB := n7_; clear n0_ n1_ n2_ n3_ n4_ n5_ n6_ n7_; (try clear hb); (try clear hb2); (try clear hk); (try clear hi); (try clear ho0)) | ((with_reducible refine gate_dst (N := 22) rfl ?_); (try (refine gate_guard (by rfl) ?_; dsimp only)); refine Kd.R_lit (Kd.int .i64) _ 2 ?hg (N := 22) ?hd (xs := ([100] : List Int)) (inner := [.int .i64 100]) (ok := fun _ => True) (okp := fun _ => True) ?hr ?hp (fun _ hk => hk) trivial (Below.refl _ _) (Nat.le_refl _) (by simp) ?_; (case hd => rfl); (case hg => rfl); (case hr => first | (go_simp; done) | (go_simp; rfl)); (case hp => exact (Reps.one (show Kd.M (Kd.int .i64) _ _ _ 100 [.int .i64 100] from rfl) (Reps.none _ _))); intro v403 w38 ho39 hb hg_ hnew_; clear hg_ hnew_; (first | rw [← Ny402.out] at ho39 | (simp only [Int.reduceToNat] at ho39; rw [← Ny402.out] at ho39)); have n0_ := Aside0.mk (Kd.R_elder' (lR HO380) (Kd.R_base ho39) hb); have n1_ := Aside0.mk (Kd.N_elder' (lN HO383) (Kd.R_base ho39) hb); have n2_ := Aside0.mk (Kd.N_elder' (lN HO386) (Kd.R_base ho39) hb); have n3_ := Aside0.mk (Kd.R_elder' (lR HO392) (Kd.R_base ho39) hb); have n4_ := Aside0.mk (Kd.N_elder' (lN HO395) (Kd.R_base ho39) hb); have n5_ := Aside0.mk (Kd.R_elder' (lR HO398) (Kd.R_base ho39) hb); have n6_ := Aside0.mk (Kd.N_elder' (lN HO401) (Kd.R_base ho39) hb); have n7_ := Aside0.mk (Kd.R_lower (Kd.R_new' (Kd.R_new' (Kd.R_new' ho39 (Kd.R_lt (lR HO380))) (Kd.R_lt (lR HO392))) (Kd.R_lt (lR HO398))) (below_size (lB HB))); have n8_ := Aside0.mk (below_step (lB HB) hb); clear HO380 HO383 HO386 HO392 HO395 HO398 HO401 HB; have HO380 := n0_; have HO383 := n1_; have HO386 := n2_; have HO392 := n3_; have HO395 := n4_; have HO398 := n5_; have HO401 := n6_; have HO404 := n7_; have HB := n8_; clear n0_ n1_ n2_ n3_ n4_ n5_ n6_ n7_ n8_; clear hb ho39; obtain ⟨Ao40, co40, eo40⟩ := Kd.R_slice HO404.out; subst eo40) | ((with_reducible refine gate_callee (f := 11) rfl ?_); refine goesL_ (some 23) rfl rfl Tryd.func11 (by kernel_rfl) rfl #[.slice Ao40 y402.length co40] rfl (by (try simp only [List.map_toArray, List.map_cons, List.map_nil]); first | done | rfl | (simp only [List.length_drop, List.length_take]; rfl)) ?_; (with_reducible refine (swagelaw21_list.calls k _ _ y402 t405 _ ?side1 ?side2 A6.out).mono ?_); (case side1 => repeat (first | exact (Kd.R_reads' HO404.out).2.2 | (with_reducible refine Kd.C_alloc ?_ _) | (with_reducible refine Kd.C_drewN ?_ _) | (with_reducible refine Kd.C_drew ?_))); (case side2 => exact (Kd.R_reads' HO404.out).2.1); rintro e w41 ⟨v406, rfl, ho0, hb⟩; refine ⟨_, rfl, ?_⟩; have n0_ := Aside0.mk (Kd.R_below (lR HO380) hb); have n1_ := Aside0.mk (Kd.N_elder' (lN HO383) (Kd.N_base ho0) hb); have n2_ := Aside0.mk (Kd.N_elder' (lN HO386) (Kd.N_base ho0) hb); have n3_ := Aside0.mk (Kd.R_below (lR HO392) hb); have n4_ := Aside0.mk (Kd.N_elder' (lN HO395) (Kd.N_base ho0) hb); have n5_ := Aside0.mk (Kd.R_below (lR HO398) hb); have n6_ := Aside0.mk (Kd.N_elder' (lN HO401) (Kd.N_base ho0) hb); have n7_ := Aside0.mk (Kd.R_below (lR HO404) hb); have n8_ := Aside0.mk (Kd.N_lower (Kd.N_mono (ok' := fun k_ => some k_ ≠ (.slice Ao25 y378.length co25 : Value).ownBlock ∧ some k_ ≠ (.slice Ao27 t381.length co27 : Value).ownBlock ∧ some k_ ≠ (v385 : Value).ownBlock ∧ some k_ ≠ (.slice Ao32 y390.length co32 : Value).ownBlock ∧ some k_ ≠ (v394 : Value).ownBlock ∧ some k_ ≠ (.slice Ao36 y396.length co36 : Value).ownBlock ∧ some k_ ≠ (v400 : Value).ownBlock ∧ some k_ ≠ (.slice Ao40 y402.length co40 : Value).ownBlock) ho0 (fun k_ hk_ => ⟨(Kd.fresh' (Kd.R_lt (lR HO380)) k_ hk_), (Kd.fresh' (Kd.N_lt (lN HO383)) k_ hk_), (Kd.fresh' (Kd.N_lt (lN HO386)) k_ hk_), (Kd.fresh' (Kd.R_lt (lR HO392)) k_ hk_), (Kd.fresh' (Kd.N_lt (lN HO395)) k_ hk_), (Kd.fresh' (Kd.R_lt (lR HO398)) k_ hk_), (Kd.fresh' (Kd.N_lt (lN HO401)) k_ hk_), (Kd.fresh' (Kd.R_lt (lR HO404)) k_ hk_)⟩)) (below_size (lB HB))); have n9_ := Aside0.mk (below_step (lB HB) hb); clear HO380 HO383 HO386 HO392 HO395 HO398 HO401 HO404 HB; have HO380 := n0_; have HO383 := n1_; have HO386 := n2_; have HO392 := n3_; have HO395 := n4_; have HO398 := n5_; have HO401 := n6_; have HO404 := n7_; have HO407 := n8_; have HB := n9_; clear n0_ n1_ n2_ n3_ n4_ n5_ n6_ n7_ n8_ n9_; (try clear hb); (try clear hb2); (try clear hk); (try clear hi); (try clear ho0); obtain ⟨Ao42, co42, eo42⟩ := Kd.N_slice HO395.out; subst eo42; obtain ⟨Ao43, co43, eo43⟩ := Kd.N_slice HO401.out; subst eo43; obtain ⟨Ao44, co44, eo44⟩ := Kd.N_slice HO407.out; subst eo44) | ((with_reducible refine gate_dst (N := 24) rfl ?_); (try (refine gate_guard (by rfl) ?_; dsimp only)); refine Kd.N_lit (Kd.slice 39 k39) _ 24 ?hg (N' := 24) ?hd (xs := ([t393, t399, t405] : List (List (S39)))) (inner := [.slice Ao42 t393.length co42, .slice Ao43 t399.length co43, .slice Ao44 t405.length co44]) (ok := (fun k_ => some k_ ≠ (.slice Ao25 y378.length co25 : Value).ownBlock ∧ some k_ ≠ (.slice Ao27 t381.length co27 : Value).ownBlock ∧ some k_ ≠ (v385 : Value).ownBlock ∧ some k_ ≠ (.slice Ao32 y390.length co32 : Value).ownBlock ∧ some k_ ≠ (.slice Ao36 y396.length co36 : Value).ownBlock ∧ some k_ ≠ (.slice Ao40 y402.length co40 : Value).ownBlock)) (okp := (fun k_ => some k_ ≠ (.slice Ao25 y378.length co25 : Value).ownBlock ∧ some k_ ≠ (.slice Ao27 t381.length co27 : Value).ownBlock ∧ some k_ ≠ (v385 : Value).ownBlock ∧ some k_ ≠ (.slice Ao32 y390.length co32 : Value).ownBlock ∧ some k_ ≠ (.slice Ao36 y396.length co36 : Value).ownBlock ∧ some k_ ≠ (.slice Ao40 y402.length co40 : Value).ownBlock)) ?hr ?hp (fun _ hk => hk) ((show ∀ k_, w41.heap.size ≤ k_ → (fun k_ => some k_ ≠ (.slice Ao25 y378.length co25 : Value).ownBlock ∧ some k_ ≠ (.slice Ao27 t381.length co27 : Value).ownBlock ∧ some k_ ≠ (v385 : Value).ownBlock ∧ some k_ ≠ (.slice Ao32 y390.length co32 : Value).ownBlock ∧ some k_ ≠ (.slice Ao36 y396.length co36 : Value).ownBlock ∧ some k_ ≠ (.slice Ao40 y402.length co40 : Value).ownBlock) k_ from fun k_ hk => ⟨Kd.fresh' (Kd.R_lt (lR HO380)) k_ hk, Kd.fresh' (Kd.N_lt (lN HO383)) k_ hk, Kd.fresh' (Kd.N_lt (lN HO386)) k_ hk, Kd.fresh' (Kd.R_lt (lR HO392)) k_ hk, Kd.fresh' (Kd.R_lt (lR HO398)) k_ hk, Kd.fresh' (Kd.R_lt (lR HO404)) k_ hk⟩) _ (Nat.le_refl _)) (Below.refl _ _) (Nat.le_refl _) (by simp) ?_; (case hd => rfl); (case hg => rfl); (case hr => first | (go_simp; done) | (go_simp; rfl)); (case hp => exact (Reps.one (show Kd.FK (Kd.slice 39 k39) _ _ t393 [.slice Ao42 t393.length co42] from (Kd.FK_slice_mk (Kd.N_reads' (Kd.N_mono (ok' := (fun k_ => some k_ ≠ (.slice Ao25 y378.length co25 : Value).ownBlock ∧ some k_ ≠ (.slice Ao27 t381.length co27 : Value).ownBlock ∧ some k_ ≠ (v385 : Value).ownBlock ∧ some k_ ≠ (.slice Ao32 y390.length co32 : Value).ownBlock ∧ some k_ ≠ (.slice Ao36 y396.length co36 : Value).ownBlock ∧ some k_ ≠ (.slice Ao40 y402.length co40 : Value).ownBlock)) (HO395.out) (fun k_ hk => ⟨hk.1.1.1.1.1, ⟨hk.1.1.1.1.2.1, ⟨hk.1.1.1.1.2.2.1, ⟨hk.1.1.1.1.2.2.2, ⟨hk.1.1.1.2, hk.1.2⟩⟩⟩⟩⟩))).2.1 (Kd.N_F (Kd.N_mono (ok' := (fun k_ => some k_ ≠ (.slice Ao25 y378.length co25 : Value).ownBlock ∧ some k_ ≠ (.slice Ao27 t381.length co27 : Value).ownBlock ∧ some k_ ≠ (v385 : Value).ownBlock ∧ some k_ ≠ (.slice Ao32 y390.length co32 : Value).ownBlock ∧ some k_ ≠ (.slice Ao36 y396.length co36 : Value).ownBlock ∧ some k_ ≠ (.slice Ao40 y402.length co40 : Value).ownBlock)) (HO395.out) (fun k_ hk => ⟨hk.1.1.1.1.1, ⟨hk.1.1.1.1.2.1, ⟨hk.1.1.1.1.2.2.1, ⟨hk.1.1.1.1.2.2.2, ⟨hk.1.1.1.2, hk.1.2⟩⟩⟩⟩⟩))))) (Reps.one (show Kd.FK (Kd.slice 39 k39) _ _ t399 [.slice Ao43 t399.length co43] from (Kd.FK_slice_mk (Kd.N_reads' (Kd.N_mono (ok' := (fun k_ => some k_ ≠ (.slice Ao25 y378.length co25 : Value).ownBlock ∧ some k_ ≠ (.slice Ao27 t381.length co27 : Value).ownBlock ∧ some k_ ≠ (v385 : Value).ownBlock ∧ some k_ ≠ (.slice Ao32 y390.length co32 : Value).ownBlock ∧ some k_ ≠ (.slice Ao36 y396.length co36 : Value).ownBlock ∧ some k_ ≠ (.slice Ao40 y402.length co40 : Value).ownBlock)) (HO401.out) (fun k_ hk => ⟨hk.1.1.1, ⟨hk.1.1.2.1, ⟨hk.1.1.2.2.1, ⟨hk.1.1.2.2.2.1, ⟨hk.1.1.2.2.2.2.2, hk.1.2⟩⟩⟩⟩⟩))).2.1 (Kd.N_F (Kd.N_mono (ok' := (fun k_ => some k_ ≠ (.slice Ao25 y378.length co25 : Value).ownBlock ∧ some k_ ≠ (.slice Ao27 t381.length co27 : Value).ownBlock ∧ some k_ ≠ (v385 : Value).ownBlock ∧ some k_ ≠ (.slice Ao32 y390.length co32 : Value).ownBlock ∧ some k_ ≠ (.slice Ao36 y396.length co36 : Value).ownBlock ∧ some k_ ≠ (.slice Ao40 y402.length co40 : Value).ownBlock)) (HO401.out) (fun k_ hk => ⟨hk.1.1.1, ⟨hk.1.1.2.1, ⟨hk.1.1.2.2.1, ⟨hk.1.1.2.2.2.1, ⟨hk.1.1.2.2.2.2.2, hk.1.2⟩⟩⟩⟩⟩))))) (Reps.one (show Kd.FK (Kd.slice 39 k39) _ _ t405 [.slice Ao44 t405.length co44] from (Kd.FK_slice_mk (Kd.N_reads' (Kd.N_mono (ok' := (fun k_ => some k_ ≠ (.slice Ao25 y378.length co25 : Value).ownBlock ∧ some k_ ≠ (.slice Ao27 t381.length co27 : Value).ownBlock ∧ some k_ ≠ (v385 : Value).ownBlock ∧ some k_ ≠ (.slice Ao32 y390.length co32 : Value).ownBlock ∧ some k_ ≠ (.slice Ao36 y396.length co36 : Value).ownBlock ∧ some k_ ≠ (.slice Ao40 y402.length co40 : Value).ownBlock)) (HO407.out) (fun k_ hk => ⟨hk.1, ⟨hk.2.1, ⟨hk.2.2.1, ⟨hk.2.2.2.1, ⟨hk.2.2.2.2.2.1, hk.2.2.2.2.2.2.2⟩⟩⟩⟩⟩))).2.1 (Kd.N_F (Kd.N_mono (ok' := (fun k_ => some k_ ≠ (.slice Ao25 y378.length co25 : Value).ownBlock ∧ some k_ ≠ (.slice Ao27 t381.length co27 : Value).ownBlock ∧ some k_ ≠ (v385 : Value).ownBlock ∧ some k_ ≠ (.slice Ao32 y390.length co32 : Value).ownBlock ∧ some k_ ≠ (.slice Ao36 y396.length co36 : Value).ownBlock ∧ some k_ ≠ (.slice Ao40 y402.length co40 : Value).ownBlock)) (HO407.out) (fun k_ hk => ⟨hk.1, ⟨hk.2.1, ⟨hk.2.2.1, ⟨hk.2.2.2.1, ⟨hk.2.2.2.2.2.1, hk.2.2.2.2.2.2.2⟩⟩⟩⟩⟩))))) (Reps.none _ _))))); intro v409 w45 ho46 hb hg_ hnew_; clear hg_ hnew_; (first | rw [← Ny408.out] at ho46 | (simp only [Int.reduceToNat] at ho46; rw [← Ny408.out] at ho46)); have n0_ := Aside0.mk (Kd.R_below (lR HO380) hb); have n1_ := Aside0.mk (Kd.N_elder' (lN HO383) (Kd.N_base ho46) hb); have n2_ := Aside0.mk (Kd.N_elder' (lN HO386) (Kd.N_base ho46) hb); have n3_ := Aside0.mk (Kd.R_below (lR HO392) hb); have n4_ := Aside0.mk (Kd.R_below (lR HO398) hb); have n5_ := Aside0.mk (Kd.R_below (lR HO404) hb); have n6_ := Aside0.mk (Kd.N_lower ho46 (below_size (lB HB))); have n7_ := Aside0.mk (below_step (lB HB) hb); clear HO380 HO383 HO386 HO392 HO398 HO404 HB HO395 HO401 HO407; have HO380 := n0_; have HO383 := n1_; have HO386 := n2_; have HO392 := n3_; have HO398 := n4_; have HO404 := n5_; have HO410 := n6_; have HB := n7_; clear n0_ n1_ n2_ n3_ n4_ n5_ n6_ n7_; clear hb ho46; obtain ⟨Ao47, co47, eo47⟩ := Kd.N_slice HO410.out; subst eo47) | ((with_reducible refine gate_callee (f := 18) rfl ?_); refine goesL_ (some 25) rfl rfl Tryd.func18 (by kernel_rfl) rfl #[.slice Ao47 y408.length co47, .int .i64 2, .int .i64 5] rfl (by (try simp only [List.map_toArray, List.map_cons, List.map_nil]); first | done | rfl | (simp only [List.length_drop, List.length_take]; rfl)) ?_; (with_reducible refine (split_Join.calls k _ _ y408 2 5 t411 t414 _ ?side1 ?side2 A7.out).mono ?_); (case side1 => repeat (first | exact (Kd.N_reads' HO410.out).2.2 | (with_reducible refine Kd.C_alloc ?_ _) | (with_reducible refine Kd.C_drewN ?_ _) | (with_reducible refine Kd.C_drew ?_))); (case side2 => exact (Kd.N_reads' HO410.out).2.1); rintro e w48 ⟨v412, rfl, ho0, hb⟩; refine ⟨_, rfl, ?_⟩; have n0_ := Aside0.mk (Kd.R_below (lR HO380) hb); have n1_ := Aside0.mk (Kd.N_below (lN HO383) hb); have n2_ := Aside0.mk (Kd.N_below (lN HO386) hb); have n3_ := Aside0.mk (Kd.R_below (lR HO392) hb); have n4_ := Aside0.mk (Kd.R_below (lR HO398) hb); have n5_ := Aside0.mk (Kd.R_below (lR HO404) hb); have n6_ := Aside0.mk (Kd.N_below (lN HO410) hb); have n7_ := Aside0.mk (Kd.V_lower (Kd.V_mono (ok' := fun k_ => some k_ ≠ (.slice Ao25 y378.length co25 : Value).ownBlock ∧ some k_ ≠ (.slice Ao27 t381.length co27 : Value).ownBlock ∧ some k_ ≠ (v385 : Value).ownBlock ∧ some k_ ≠ (.slice Ao32 y390.length co32 : Value).ownBlock ∧ some k_ ≠ (.slice Ao36 y396.length co36 : Value).ownBlock ∧ some k_ ≠ (.slice Ao40 y402.length co40 : Value).ownBlock ∧ some k_ ≠ (.slice Ao47 y408.length co47 : Value).ownBlock) ho0 (fun k_ hk_ => ⟨(Kd.fresh' (Kd.R_lt (lR HO380)) k_ hk_), (Kd.fresh' (Kd.N_lt (lN HO383)) k_ hk_), (Kd.fresh' (Kd.N_lt (lN HO386)) k_ hk_), (Kd.fresh' (Kd.R_lt (lR HO392)) k_ hk_), (Kd.fresh' (Kd.R_lt (lR HO398)) k_ hk_), (Kd.fresh' (Kd.R_lt (lR HO404)) k_ hk_), (Kd.fresh' (Kd.N_lt (lN HO410)) k_ hk_)⟩)) (below_size (lB HB))); have n8_ := Aside0.mk (below_step (lB HB) hb); clear HO380 HO383 HO386 HO392 HO398 HO404 HO410 HB; have HO380 := n0_; have HO383 := n1_; have HO386 := n2_; have HO392 := n3_; have HO398 := n4_; have HO404 := n5_; have HO410 := n6_; have HO413 := n7_; have HB := n8_; clear n0_ n1_ n2_ n3_ n4_ n5_ n6_ n7_ n8_; (try clear hb); (try clear hb2); (try clear hk); (try clear hi); (try clear ho0)))
          have n0_ := Aside0.mk (Kd.R_drew HO380.out)
          have n1_ := Aside0.mk (Kd.N_drew HO383.out)
          have n2_ := Aside0.mk (Kd.N_drew HO386.out)
          have n3_ := Aside0.mk (Kd.R_drew HO392.out)
          have n4_ := Aside0.mk (Kd.R_drew HO398.out)
          have n5_ := Aside0.mk (Kd.R_drew HO404.out)
          have n6_ := Aside0.mk (Kd.N_drew HO410.out)
          have n7_ := Aside0.mk (Kd.V_drew HO413.out)
          have n8_ := Aside0.mk (below_drew1 HB.out)
          clear HO380
          clear HO383
          clear HO386
          clear HO392
          clear HO398
          clear HO404
          clear HO410
          clear HO413
          clear HB
          have HO380 := n0_
          have HO383 := n1_
          have HO386 := n2_
          have HO392 := n3_
          have HO398 := n4_
          have HO404 := n5_
          have HO410 := n6_
          have HO413 := n7_
          have HB := n8_
          clear n0_ n1_ n2_ n3_ n4_ n5_ n6_ n7_ n8_
          obtain ⟨Ao50, co50, eo50⟩ := Kd.N_slice HO386.out
          (first | subst eo50 | (injection eo50 with f1_ f2_ f3_; have f4_ := f1_.symm; have f5_ := f3_.symm; clear f1_ f2_ f3_; subst f4_; subst f5_))
          have p415 : 0 ≤ (0 : Int) := (by omega)
          have q415 : 0 < (t384.length : Int) := of_decide_eq_true (by first | (with_reducible assumption) | assumption)
          obtain ⟨ad415, A415_0, c415_0, e415, hx415_0, hl415_0, hi415_0⟩ := at_L5 (Kd.N_reads' HO386.out).2.2 0 p415 q415
          cases e415
          obtain ⟨ce415, hce415, hMe415, hcc415⟩ := Kd.N_get HO386.out [] 0 p415 (by first | exact q415 | exact of_decide_eq_true (by first | (with_reducible assumption) | assumption) | (have e_ := (Kd.N_reads' HO386.out).1; omega))
          obtain ⟨ua415_0, uc415_0, rfl, ul415_0, ge415_0⟩ := Kd.FK_slice_open hMe415
          have hv415_0 := hcc415 0 _ rfl
          rw [Nat.add_zero, show ((Kd.slice 39 k39)).sz = 1 from rfl, Nat.mul_one] at hv415_0
          replace hv415_0 := Option.some.inj (hv415_0.symm.trans hx415_0)
          injection hv415_0 with hva_ hvn_ hvc_
          rw [hva_] at ge415_0
          rw [hvc_] at ul415_0
          have HL415_0 := Aside0.mk (show Kd.V k39 39 _ w.heap.size _ _ (rd_L5 t384 0) from Kd.V_mk ul415_0 ge415_0)
          clear hva_ hvn_ hvc_ ge415_0 ul415_0
          clear hcc415 hce415
          have qi415 : (0 < t384.length) = True := eq_true (by omega)
          (try rw [show ((0 : Int)).toNat = 0 from rfl] at hx415_0)
          (try rw [Addr.add_zero'] at hx415_0)
          have HR415_0 := Aside0.mk hi415_0
          have HC415_0 := Aside0.mk hl415_0
          clear hi415_0 hl415_0
          replace p415 := eq_true p415
          replace q415 := eq_true q415
          have p423 : 0 ≤ (1 : Int) := (by omega)
          have q423 : 1 < (t384.length : Int) := of_decide_eq_true (by first | (with_reducible assumption) | assumption)
          obtain ⟨ad423, A423_0, c423_0, e423, hx423_0, hl423_0, hi423_0⟩ := at_L5 (Kd.N_reads' HO386.out).2.2 1 p423 q423
          obtain rfl : ad415 = ad423 := (by injection e423)
          obtain ⟨ce423, hce423, hMe423, hcc423⟩ := Kd.N_get HO386.out [] 1 p423 (by first | exact q423 | exact of_decide_eq_true (by first | (with_reducible assumption) | assumption) | (have e_ := (Kd.N_reads' HO386.out).1; omega))
          obtain ⟨ua423_0, uc423_0, rfl, ul423_0, ge423_0⟩ := Kd.FK_slice_open hMe423
          have hv423_0 := hcc423 0 _ rfl
          rw [Nat.add_zero, show ((Kd.slice 39 k39)).sz = 1 from rfl, Nat.mul_one] at hv423_0
          replace hv423_0 := Option.some.inj (hv423_0.symm.trans hx423_0)
          injection hv423_0 with hva_ hvn_ hvc_
          rw [hva_] at ge423_0
          rw [hvc_] at ul423_0
          have HL423_0 := Aside0.mk (show Kd.V k39 39 _ w.heap.size _ _ (rd_L5 t384 1) from Kd.V_mk ul423_0 ge423_0)
          clear hva_ hvn_ hvc_ ge423_0 ul423_0
          clear hcc423 hce423
          (try simp only [show (1 : Int).toNat = 1 from rfl, Nat.reduceMul, Nat.reduceEqDiff, Go.Addr.add, ↓reduceIte] at hx423_0)
          have qi423 : (1 < t384.length) = True := eq_true (by omega)
          (try rw [show ((1 : Int)).toNat = 1 from rfl] at hx423_0)
          have HR423_0 := Aside0.mk hi423_0
          have HC423_0 := Aside0.mk hl423_0
          clear hi423_0 hl423_0
          replace p423 := eq_true p423
          replace q423 := eq_true q423
          refine start_ (n := 42) (S := fun w' => w'.cell? ad415 = some (.slice A415_0 (rd_L5 t384 0).length c415_0) ∧ w'.cell? ⟨ad415.block, ad415.off + 1, none⟩ = some (.slice A423_0 (rd_L5 t384 1).length c423_0)) (ds := []) #[false, false, false, false, false, false, false, false, false, false, false, false, false, false, false, false, false, false, false, false, false, false, false, false, false, false, false, false, false, false, false, false, false, false, false, false, false, false, false, false, false, false] (by kernel_rfl) rfl rfl ⟨hx415_0, hx423_0⟩ (fun hHeld => ?_); refine with_tabW swagelaw21_works.tab4 swagelaw21_works.bits4 (fun HT_ HW_ => ?_)
          generalize w48.drew = w49 at HO380 HO383 HO386 HO392 HO398 HO404 HO410 HO413 HB HL415_0 HL423_0 HR415_0 HR423_0 hx415_0 hx423_0 hHeld ⊢
          refine pure_ (i := 0) (N := some 28) (v := ?_) (a' := ?_) #[true, false, false, false, false, false, false, false, false, false, false, false, false, false, false, false, false, false, false, false, false, false, false, false, false, false, false, false, false, false, false, false, false, false, false, false, false, false, false, false, false, false] rfl rfl (any_of HT_.out (by kernel_rfl)) (fun _ _ _ h => h) (Or.inl ⟨by rfl, ?_⟩) ?_ ?_
          rotate_left
          ·intro w'
           go_simp
           with_reducible rfl
          rotate_left
          ·simp only [Act.put, List.setIfInBounds_toArray, List.set_cons_zero, List.set_cons_succ, i64_w, i32_w]
           rfl
          refine pure_ (i := 1) (N := some 29) (v := ?_) (a' := ?_) #[true, true, false, false, false, false, false, false, false, false, false, false, false, false, false, false, false, false, false, false, false, false, false, false, false, false, false, false, false, false, false, false, false, false, false, false, false, false, false, false, false, false] rfl rfl (any_of HT_.out (by kernel_rfl)) (fun _ _ _ h => h) (Or.inl ⟨by rfl, ?_⟩) ?_ ?_
          rotate_left
          ·intro w'
           go_simp
           with_reducible rfl
          rotate_left
          ·simp only [Act.put, List.setIfInBounds_toArray, List.set_cons_zero, List.set_cons_succ, i64_w, i32_w]
           rfl
          refine pure_ (i := 2) (N := some 30) (v := ?_) (a' := ?_) #[true, true, true, false, false, false, false, false, false, false, false, false, false, false, false, false, false, false, false, false, false, false, false, false, false, false, false, false, false, false, false, false, false, false, false, false, false, false, false, false, false, false] rfl rfl (any_of HT_.out (by kernel_rfl)) (fun _ _ _ h => h) (Or.inl ⟨by rfl, ?_⟩) ?_ ?_
          rotate_left
          ·intro w'
           go_simp
           with_reducible rfl
          rotate_left
          ·simp only [Act.put, List.setIfInBounds_toArray, List.set_cons_zero, List.set_cons_succ, i64_w, i32_w]
           rfl
          refine pure_ (i := 3) (N := some 31) (v := ?_) (a' := ?_) #[true, true, true, true, false, false, false, false, false, false, false, false, false, false, false, false, false, false, false, false, false, false, false, false, false, false, false, false, false, false, false, false, false, false, false, false, false, false, false, false, false, false] rfl rfl (any_of HT_.out (by kernel_rfl)) (fun _ _ _ h => h) (Or.inl ⟨by rfl, ?_⟩) ?_ ?_
          rotate_left
          ·intro w'
           go_simp
           with_reducible rfl
          rotate_left
          ·simp only [Act.put, List.setIfInBounds_toArray, List.set_cons_zero, List.set_cons_succ, i64_w, i32_w]
           rfl
          refine pure_ (i := 4) (N := some 32) (v := ?_) (a' := ?_) #[true, true, true, true, true, false, false, false, false, false, false, false, false, false, false, false, false, false, false, false, false, false, false, false, false, false, false, false, false, false, false, false, false, false, false, false, false, false, false, false, false, false] rfl rfl (any_of HT_.out (by kernel_rfl)) (fun _ _ _ h => h) (Or.inl ⟨by rfl, ?_⟩) ?_ ?_
          rotate_left
          ·intro w'
           go_simp
           with_reducible rfl
          rotate_left
          ·simp only [Act.put, List.setIfInBounds_toArray, List.set_cons_zero, List.set_cons_succ, i64_w, i32_w]
           rfl
          refine pure_ (i := 5) (N := some 33) (v := ?_) (a' := ?_) #[true, true, true, true, true, true, false, false, false, false, false, false, false, false, false, false, false, false, false, false, false, false, false, false, false, false, false, false, false, false, false, false, false, false, false, false, false, false, false, false, false, false] rfl rfl (any_of HT_.out (by kernel_rfl)) (fun _ _ _ h => h) (Or.inl ⟨by rfl, ?_⟩) ?_ ?_
          rotate_left
          ·intro w'
           go_simp
           with_reducible rfl
          rotate_left
          ·simp only [Act.put, List.setIfInBounds_toArray, List.set_cons_zero, List.set_cons_succ, i64_w, i32_w]
           rfl
          refine pure_ (i := 6) (N := some 34) (v := ?_) (a' := ?_) #[true, true, true, true, true, true, true, false, false, false, false, false, false, false, false, false, false, false, false, false, false, false, false, false, false, false, false, false, false, false, false, false, false, false, false, false, false, false, false, false, false, false] rfl rfl (any_of HT_.out (by kernel_rfl)) (fun _ _ _ h => h) (Or.inl ⟨by rfl, ?_⟩) ?_ ?_
          rotate_left
          ·intro w'
           go_simp
           with_reducible rfl
          rotate_left
          ·simp only [Act.put, List.setIfInBounds_toArray, List.set_cons_zero, List.set_cons_succ, i64_w, i32_w]
           rfl
          refine pure_ (i := 7) (N := some 35) (v := ?_) (a' := ?_) #[true, true, true, true, true, true, true, true, false, false, false, false, false, false, false, false, false, false, false, false, false, false, false, false, false, false, false, false, false, false, false, false, false, false, false, false, false, false, false, false, false, false] rfl rfl (any_of HT_.out (by kernel_rfl)) (fun _ _ _ h => h) (Or.inl ⟨by rfl, ?_⟩) ?_ ?_
          rotate_left
          ·intro w'
           go_simp
           with_reducible rfl
          rotate_left
          ·simp only [Act.put, List.setIfInBounds_toArray, List.set_cons_zero, List.set_cons_succ, i64_w, i32_w]
           rfl
          refine pure_ (i := 8) (N := some 36) (v := ?_) (a' := ?_) #[true, true, true, true, true, true, true, true, true, false, false, false, false, false, false, false, false, false, false, false, false, false, false, false, false, false, false, false, false, false, false, false, false, false, false, false, false, false, false, false, false, false] rfl rfl (any_of HT_.out (by kernel_rfl)) (fun _ _ _ h => h) (Or.inl ⟨by rfl, ?_⟩) ?_ ?_
          rotate_left
          ·intro w'
           go_simp
           with_reducible rfl
          rotate_left
          ·simp only [Act.put, List.setIfInBounds_toArray, List.set_cons_zero, List.set_cons_succ, i64_w, i32_w]
           rfl
          refine pure_ (i := 9) (N := some 37) (v := ?_) (a' := ?_) #[true, true, true, true, true, true, true, true, true, true, false, false, false, false, false, false, false, false, false, false, false, false, false, false, false, false, false, false, false, false, false, false, false, false, false, false, false, false, false, false, false, false] rfl rfl (any_of HT_.out (by kernel_rfl)) (fun _ _ _ h => h) (Or.inl ⟨by rfl, ?_⟩) ?_ ?_
          rotate_left
          ·intro w'
           go_simp
           with_reducible rfl
          rotate_left
          ·simp only [Act.put, List.setIfInBounds_toArray, List.set_cons_zero, List.set_cons_succ, i64_w, i32_w]
           rfl
          refine pure_ (i := 10) (N := some 38) (v := ?_) (a' := ?_) #[true, true, true, true, true, true, true, true, true, true, true, false, false, false, false, false, false, false, false, false, false, false, false, false, false, false, false, false, false, false, false, false, false, false, false, false, false, false, false, false, false, false] rfl rfl (any_of HT_.out (by kernel_rfl)) (fun _ _ _ h => h) (Or.inl ⟨by rfl, ?_⟩) ?_ ?_
          rotate_left
          ·intro w'
           go_simp
           with_reducible rfl
          rotate_left
          ·simp only [Act.put, List.setIfInBounds_toArray, List.set_cons_zero, List.set_cons_succ, i64_w, i32_w]
           rfl
          refine pure_ (i := 11) (N := some 39) (v := ?_) (a' := ?_) #[true, true, true, true, true, true, true, true, true, true, true, true, false, false, false, false, false, false, false, false, false, false, false, false, false, false, false, false, false, false, false, false, false, false, false, false, false, false, false, false, false, false] rfl rfl (any_of HT_.out (by kernel_rfl)) (fun _ _ _ h => h) (Or.inl ⟨by rfl, ?_⟩) ?_ ?_
          rotate_left
          ·intro w'
           go_simp
           with_reducible rfl
          rotate_left
          ·simp only [Act.put, List.setIfInBounds_toArray, List.set_cons_zero, List.set_cons_succ, i64_w, i32_w]
           rfl
          refine pure_ (i := 12) (N := some 40) (v := ?_) (a' := ?_) #[true, true, true, true, true, true, true, true, true, true, true, true, true, false, false, false, false, false, false, false, false, false, false, false, false, false, false, false, false, false, false, false, false, false, false, false, false, false, false, false, false, false] rfl rfl (any_of HT_.out (by kernel_rfl)) (fun _ _ _ h => h) (Or.inl ⟨by rfl, ?_⟩) ?_ ?_
          rotate_left
          ·intro w'
           go_simp
           with_reducible rfl
          rotate_left
          ·simp only [Act.put, List.setIfInBounds_toArray, List.set_cons_zero, List.set_cons_succ, i64_w, i32_w]
           rfl
          refine pure_ (i := 13) (N := some 41) (v := ?_) (a' := ?_) #[true, true, true, true, true, true, true, true, true, true, true, true, true, true, false, false, false, false, false, false, false, false, false, false, false, false, false, false, false, false, false, false, false, false, false, false, false, false, false, false, false, false] rfl rfl (any_of HT_.out (by kernel_rfl)) (fun _ _ _ h => h) (Or.inl ⟨by rfl, ?_⟩) ?_ ?_
          rotate_left
          ·intro w'
           go_simp
           with_reducible rfl
          rotate_left
          ·simp only [Act.put, List.setIfInBounds_toArray, List.set_cons_zero, List.set_cons_succ, i64_w, i32_w]
           rfl
          refine pure_ (i := 14) (N := some 42) (v := ?_) (a' := ?_) #[true, true, true, true, true, true, true, true, true, true, true, true, true, true, true, false, false, false, false, false, false, false, false, false, false, false, false, false, false, false, false, false, false, false, false, false, false, false, false, false, false, false] rfl rfl (any_of HT_.out (by kernel_rfl)) (fun _ _ _ h => h) (Or.inl ⟨by rfl, ?_⟩) ?_ ?_
          rotate_left
          ·intro w'
           go_simp
           with_reducible rfl
          rotate_left
          ·simp only [Act.put, List.setIfInBounds_toArray, List.set_cons_zero, List.set_cons_succ, i64_w, i32_w]
           rfl
          refine pure_ (i := 15) (N := some 43) (v := ?_) (a' := ?_) #[true, true, true, true, true, true, true, true, true, true, true, true, true, true, true, true, false, false, false, false, false, false, false, false, false, false, false, false, false, false, false, false, false, false, false, false, false, false, false, false, false, false] rfl rfl (any_of HT_.out (by kernel_rfl)) (fun _ _ _ h => h) (Or.inl ⟨by rfl, ?_⟩) ?_ ?_
          rotate_left
          ·intro w'
           go_simp
           with_reducible rfl
          rotate_left
          ·simp only [Act.put, List.setIfInBounds_toArray, List.set_cons_zero, List.set_cons_succ, i64_w, i32_w]
           rfl
          refine pure_ (i := 16) (N := some 44) (v := ?_) (a' := ?_) #[true, true, true, true, true, true, true, true, true, true, true, true, true, true, true, true, true, false, false, false, false, false, false, false, false, false, false, false, false, false, false, false, false, false, false, false, false, false, false, false, false, false] rfl rfl (any_of HT_.out (by kernel_rfl)) (fun _ _ _ h => h) (Or.inl ⟨by rfl, ?_⟩) ?_ ?_
          rotate_left
          ·intro w'
           go_simp
           with_reducible rfl
          rotate_left
          ·simp only [Act.put, List.setIfInBounds_toArray, List.set_cons_zero, List.set_cons_succ, i64_w, i32_w]
           rfl
          refine pure_ (i := 17) (N := some 45) (v := ?_) (a' := ?_) #[true, true, true, true, true, true, true, true, true, true, true, true, true, true, true, true, true, true, false, false, false, false, false, false, false, false, false, false, false, false, false, false, false, false, false, false, false, false, false, false, false, false] rfl rfl (any_of HT_.out (by kernel_rfl)) (fun _ _ _ h => h) (Or.inl ⟨by rfl, ?_⟩) ?_ ?_
          rotate_left
          ·intro w'
           go_simp
           with_reducible rfl
          rotate_left
          ·simp only [Act.put, List.setIfInBounds_toArray, List.set_cons_zero, List.set_cons_succ, i64_w, i32_w]
           rfl
          refine take_ (i := 18) (N := some 46) (v := ?_) (a' := ?_) #[true, true, true, true, true, true, true, true, true, true, true, true, true, true, true, true, true, true, true, false, false, false, false, false, false, false, false, false, false, false, false, false, false, false, false, false, false, false, false, false, false, false] rfl rfl (take_ofW HT_.out HW_.out (by kernel_rfl)) (fun _ _ _ h => h) (Or.inl ⟨by rfl, ?_⟩) hHeld ?_ ?_
          rotate_left
          ·rintro w' ⟨s0, s1⟩
           go_simp
           with_reducible rfl
          rotate_left
          ·simp only [Act.put, List.setIfInBounds_toArray, List.set_cons_zero, List.set_cons_succ, i64_w, i32_w]
           rfl
          refine one_ (i := 19) (N := some 47) #[true, true, true, true, true, true, true, true, true, true, true, true, true, true, true, true, true, true, true, true, false, false, false, false, false, false, false, false, false, false, false, false, false, false, false, false, false, false, false, false, false, false] rfl rfl (one_of HT_.out (by kernel_rfl)) (by decide) (fun K hK => ?_)
          refine Kd.R_lit_step (Kd.int .i64) _ 2 ?hg (N := 47) ?hd (xs := ([1, 2, 3] : List Int)) (inner := [.int .i64 1, .int .i64 2, .int .i64 3]) (ok := fun _ => True) (okp := fun _ => True) ?hr ?hp (fun _ hk => hk) trivial (Below.refl _ _) (Nat.le_refl _) (by simp) ?_; (case hd => rfl); (case hg => rfl); (case hr => first | (go_simp; done) | (go_simp; rfl)); (case hp => exact (Reps.one (show Kd.M (Kd.int .i64) _ _ _ 1 [.int .i64 1] from rfl) (Reps.one (show Kd.M (Kd.int .i64) _ _ _ 2 [.int .i64 2] from rfl) (Reps.one (show Kd.M (Kd.int .i64) _ _ _ 3 [.int .i64 3] from rfl) (Reps.none _ _)))))
          intro v417 w51 ho52 hb hg_ hnew_
          have HS0_ := (hb.cell (World.block_lt_of_cell? _ _ (hHeld.1))).trans (hHeld.1)
          have HS1_ := (hb.cell (World.block_lt_of_cell? _ _ (hHeld.2))).trans (hHeld.2)
          clear hg_ hnew_
          (first | rw [← Ny416.out] at ho52 | (simp only [Int.reduceToNat] at ho52; rw [← Ny416.out] at ho52))
          have n0_ := Aside0.mk (Kd.R_elder' (lR HO380) (Kd.R_base ho52) hb)
          have n1_ := Aside0.mk (Kd.N_elder' (lN HO383) (Kd.R_base ho52) hb)
          have n2_ := Aside0.mk (Kd.N_elder' (lN HO386) (Kd.R_base ho52) hb)
          have n3_ := Aside0.mk (Kd.R_elder' (lR HO392) (Kd.R_base ho52) hb)
          have n4_ := Aside0.mk (Kd.R_elder' (lR HO398) (Kd.R_base ho52) hb)
          have n5_ := Aside0.mk (Kd.R_elder' (lR HO404) (Kd.R_base ho52) hb)
          have n6_ := Aside0.mk (Kd.N_elder' (lN HO410) (Kd.R_base ho52) hb)
          have n7_ := Aside0.mk (Kd.V_elder' (lV HO413) (Kd.R_base ho52) hb)
          have n8_ := Aside0.mk (Kd.V_elder' (lV HL415_0) (Kd.R_base ho52) hb)
          have n9_ := Aside0.mk (Kd.R_lower (Kd.R_new' (Kd.R_new' (Kd.R_new' (Kd.R_new' ho52 (Kd.R_lt (lR HO380))) (Kd.R_lt (lR HO392))) (Kd.R_lt (lR HO398))) (Kd.R_lt (lR HO404))) (below_size (lB HB)))
          have n10_ := Aside0.mk (Kd.C_below (by repeat (first | (with_reducible exact HR415_0.out) | (with_reducible refine Kd.C_alloc ?_ _) | (with_reducible refine Kd.C_drewN ?_ _) | (with_reducible refine Kd.C_drew ?_) | exact HR415_0.out)) hb)
          have n11_ := Aside0.mk (below_step (lB HB) hb)
          (try replace HL423_0 := Aside0.mk (Kd.V_below HL423_0.out hb))
          (try replace HR423_0 := Aside0.mk (Kd.C_below HR423_0.out hb))
          clear HO380
          clear HO383
          clear HO386
          clear HO392
          clear HO398
          clear HO404
          clear HO410
          clear HO413
          clear HL415_0
          clear HR415_0
          clear HB
          have HO380 := n0_
          have HO383 := n1_
          have HO386 := n2_
          have HO392 := n3_
          have HO398 := n4_
          have HO404 := n5_
          have HO410 := n6_
          have HO413 := n7_
          have HL415_0 := n8_
          have HO418 := n9_
          have HR415_0 := n10_
          have HB := n11_
          clear n0_ n1_ n2_ n3_ n4_ n5_ n6_ n7_ n8_ n9_ n10_ n11_
          clear hb ho52
          obtain ⟨Ao53, co53, eo53⟩ := Kd.R_slice HO418.out
          (first | subst eo53 | (injection eo53 with f1_ f2_ f3_; have f4_ := f1_.symm; have f5_ := f3_.symm; clear f1_ f2_ f3_; subst f4_; subst f5_))
          refine hK.out _ _ ⟨HS0_, HS1_⟩ (fun hHeld => ?_)
          clear hK K
          refine norm_ (a' := ?_) ?_ ?_
          rotate_left
          ·show Act.put _ (some 47) _ = _
           simp only [Act.put, List.setIfInBounds_toArray, List.set_cons_zero, List.set_cons_succ, i64_w, i32_w]
           rfl
          refine one_ (i := 20) (N := some 48) #[true, true, true, true, true, true, true, true, true, true, true, true, true, true, true, true, true, true, true, true, true, false, false, false, false, false, false, false, false, false, false, false, false, false, false, false, false, false, false, false, false, false] rfl rfl (one_of HT_.out (by kernel_rfl)) (by decide) (fun K hK => ?_)
          refine goes_ Tryd.func15 (by kernel_rfl) rfl #[.slice Ao53 y416.length co53] (by rfl) rfl rfl (by (try simp only [List.map_toArray, List.map_cons, List.map_nil]); first | done | rfl | (simp only [List.length_drop, List.length_take]; rfl)) ?_
          with_reducible refine (swagelaw21_ref.calls k _ _ y416 t419 _ ?side1 ?side2 A13.out).mono ?_
          (case side1 => repeat (first | exact (Kd.R_reads' HO418.out).2.2 | (with_reducible refine Kd.C_alloc ?_ _) | (with_reducible refine Kd.C_drewN ?_ _) | (with_reducible refine Kd.C_drew ?_)))
          (case side2 => exact (Kd.R_reads' HO418.out).2.1)
          rintro e w54 ⟨v420, rfl, ho0, hb⟩
          have HS0_ := (hb.cell (World.block_lt_of_cell? _ _ (hHeld.1))).trans (hHeld.1)
          have HS1_ := (hb.cell (World.block_lt_of_cell? _ _ (hHeld.2))).trans (hHeld.2)
          refine ⟨_, rfl, ?_⟩
          have n0_ := Aside0.mk (Kd.R_below (lR HO380) hb)
          have n1_ := Aside0.mk (Kd.N_elder' (lN HO383) (Kd.N_base ho0) hb)
          have n2_ := Aside0.mk (Kd.N_elder' (lN HO386) (Kd.N_base ho0) hb)
          have n3_ := Aside0.mk (Kd.R_below (lR HO392) hb)
          have n4_ := Aside0.mk (Kd.R_below (lR HO398) hb)
          have n5_ := Aside0.mk (Kd.R_below (lR HO404) hb)
          have n6_ := Aside0.mk (Kd.N_elder' (lN HO410) (Kd.N_base ho0) hb)
          have n7_ := Aside0.mk (Kd.V_elder' (lV HO413) (Kd.N_base ho0) hb)
          have n8_ := Aside0.mk (Kd.V_elder' (lV HL415_0) (Kd.N_base ho0) hb)
          have n9_ := Aside0.mk (Kd.R_below (lR HO418) hb)
          have n10_ := Aside0.mk (Kd.N_lower (Kd.N_mono (ok' := fun k_ => some k_ ≠ (.slice Ao25 y378.length co25 : Value).ownBlock ∧ some k_ ≠ (.slice Ao27 t381.length co27 : Value).ownBlock ∧ some k_ ≠ (.slice (some ad415) t384.length co50 : Value).ownBlock ∧ some k_ ≠ (.slice Ao32 y390.length co32 : Value).ownBlock ∧ some k_ ≠ (.slice Ao36 y396.length co36 : Value).ownBlock ∧ some k_ ≠ (.slice Ao40 y402.length co40 : Value).ownBlock ∧ some k_ ≠ (.slice Ao47 y408.length co47 : Value).ownBlock ∧ some k_ ≠ (.slice Ao53 y416.length co53 : Value).ownBlock) ho0 (fun k_ hk_ => ⟨(Kd.fresh' (Kd.R_lt (lR HO380)) k_ hk_), (Kd.fresh' (Kd.N_lt (lN HO383)) k_ hk_), (Kd.fresh' (Kd.N_lt (lN HO386)) k_ hk_), (Kd.fresh' (Kd.R_lt (lR HO392)) k_ hk_), (Kd.fresh' (Kd.R_lt (lR HO398)) k_ hk_), (Kd.fresh' (Kd.R_lt (lR HO404)) k_ hk_), (Kd.fresh' (Kd.N_lt (lN HO410)) k_ hk_), (Kd.fresh' (Kd.R_lt (lR HO418)) k_ hk_)⟩)) (below_size (lB HB)))
          have n11_ := Aside0.mk (Kd.C_below (by repeat (first | (with_reducible exact HR415_0.out) | (with_reducible refine Kd.C_alloc ?_ _) | (with_reducible refine Kd.C_drewN ?_ _) | (with_reducible refine Kd.C_drew ?_) | exact HR415_0.out)) hb)
          have n12_ := Aside0.mk (below_step (lB HB) hb)
          (try replace HL423_0 := Aside0.mk (Kd.V_below HL423_0.out hb))
          (try replace HR423_0 := Aside0.mk (Kd.C_below HR423_0.out hb))
          clear HO380
          clear HO383
          clear HO386
          clear HO392
          clear HO398
          clear HO404
          clear HO410
          clear HO413
          clear HL415_0
          clear HO418
          clear HR415_0
          clear HB
          have HO380 := n0_
          have HO383 := n1_
          have HO386 := n2_
          have HO392 := n3_
          have HO398 := n4_
          have HO404 := n5_
          have HO410 := n6_
          have HO413 := n7_
          have HL415_0 := n8_
          have HO418 := n9_
          have HO421 := n10_
          have HR415_0 := n11_
          have HB := n12_
          clear n0_ n1_ n2_ n3_ n4_ n5_ n6_ n7_ n8_ n9_ n10_ n11_ n12_
          (try clear hb)
          (try clear hb2)
          (try clear hk)
          (try clear hi)
          (try clear ho0)
          obtain ⟨Ao55, co55, eo55⟩ := Kd.N_slice HO421.out
          (first | subst eo55 | (injection eo55 with f1_ f2_ f3_; have f4_ := f1_.symm; have f5_ := f3_.symm; clear f1_ f2_ f3_; subst f4_; subst f5_))
          refine hK.out _ _ ⟨HS0_, HS1_⟩ (fun hHeld => ?_)
          clear hK K
          refine norm_ (a' := ?_) ?_ ?_
          rotate_left
          ·show Act.put _ (some 48) _ = _
           simp only [Act.put, List.setIfInBounds_toArray, List.set_cons_zero, List.set_cons_succ, i64_w, i32_w]
           rfl
          refine one_ (i := 21) (N := some 49) #[true, true, true, true, true, true, true, true, true, true, true, true, true, true, true, true, true, true, true, true, true, true, false, false, false, false, false, false, false, false, false, false, false, false, false, false, false, false, false, false, false, false] rfl rfl (one_of HT_.out (by kernel_rfl)) (by decide) (fun K hK => ?_)
          refine goes_ Tryd.func16 (by kernel_rfl) rfl #[.slice A415_0 (rd_L5 t384 0).length c415_0, .slice Ao55 t419.length co55] (by rfl) rfl rfl (by (try simp only [List.map_toArray, List.map_cons, List.map_nil]); first | done | rfl | (simp only [List.length_drop, List.length_take]; rfl)) ?_
          with_reducible refine (swagelaw21_is.calls k _ _ (rd_L5 t384 0) _ _ t419 true _ ?side1 ?side2 ?side3 ?side4 A14.out).mono ?_
          (case side1 => repeat (first | exact (by repeat (first | (with_reducible exact HR415_0.out) | (with_reducible refine Kd.C_alloc ?_ _) | (with_reducible refine Kd.C_drewN ?_ _) | (with_reducible refine Kd.C_drew ?_) | exact HR415_0.out)) | (with_reducible refine Kd.C_alloc ?_ _) | (with_reducible refine Kd.C_drewN ?_ _) | (with_reducible refine Kd.C_drew ?_)))
          (case side2 => exact HC415_0.out)
          (case side3 => repeat (first | exact (Kd.N_reads' HO421.out).2.2 | (with_reducible refine Kd.C_alloc ?_ _) | (with_reducible refine Kd.C_drewN ?_ _) | (with_reducible refine Kd.C_drew ?_)))
          (case side4 => exact (Kd.N_reads' HO421.out).2.1)
          rintro e w56 ⟨rfl, hb⟩
          have HS0_ := (hb.cell (World.block_lt_of_cell? _ _ (hHeld.1))).trans (hHeld.1)
          have HS1_ := (hb.cell (World.block_lt_of_cell? _ _ (hHeld.2))).trans (hHeld.2)
          refine ⟨_, rfl, ?_⟩
          have n0_ := Aside0.mk (Kd.R_below (lR HO380) hb)
          have n1_ := Aside0.mk (Kd.N_below (lN HO383) hb)
          have n2_ := Aside0.mk (Kd.N_below (lN HO386) hb)
          have n3_ := Aside0.mk (Kd.R_below (lR HO392) hb)
          have n4_ := Aside0.mk (Kd.R_below (lR HO398) hb)
          have n5_ := Aside0.mk (Kd.R_below (lR HO404) hb)
          have n6_ := Aside0.mk (Kd.N_below (lN HO410) hb)
          have n7_ := Aside0.mk (Kd.V_below (lV HO413) hb)
          have n8_ := Aside0.mk (Kd.V_below (lV HL415_0) hb)
          have n9_ := Aside0.mk (Kd.R_below (lR HO418) hb)
          have n10_ := Aside0.mk (Kd.N_below (lN HO421) hb)
          have n11_ := Aside0.mk (Kd.C_below (by repeat (first | (with_reducible exact HR415_0.out) | (with_reducible refine Kd.C_alloc ?_ _) | (with_reducible refine Kd.C_drewN ?_ _) | (with_reducible refine Kd.C_drew ?_) | exact HR415_0.out)) hb)
          have n12_ := Aside0.mk (below_step (lB HB) hb)
          (try replace HL423_0 := Aside0.mk (Kd.V_below HL423_0.out hb))
          (try replace HR423_0 := Aside0.mk (Kd.C_below HR423_0.out hb))
          clear HO380
          clear HO383
          clear HO386
          clear HO392
          clear HO398
          clear HO404
          clear HO410
          clear HO413
          clear HL415_0
          clear HO418
          clear HO421
          clear HR415_0
          clear HB
          have HO380 := n0_
          have HO383 := n1_
          have HO386 := n2_
          have HO392 := n3_
          have HO398 := n4_
          have HO404 := n5_
          have HO410 := n6_
          have HO413 := n7_
          have HL415_0 := n8_
          have HO418 := n9_
          have HO421 := n10_
          have HR415_0 := n11_
          have HB := n12_
          clear n0_ n1_ n2_ n3_ n4_ n5_ n6_ n7_ n8_ n9_ n10_ n11_ n12_
          (try clear hb)
          (try clear hb2)
          (try clear hk)
          (try clear hi)
          refine hK.out _ _ ⟨HS0_, HS1_⟩ (fun hHeld => ?_)
          clear hK K
          refine norm_ (a' := ?_) ?_ ?_
          rotate_left
          ·show Act.put _ (some 49) _ = _
           simp only [Act.put, List.setIfInBounds_toArray, List.set_cons_zero, List.set_cons_succ, i64_w, i32_w]
           rfl
          refine pure_ (i := 22) (N := some 50) (v := ?_) (a' := ?_) #[true, true, true, true, true, true, true, true, true, true, true, true, true, true, true, true, true, true, true, true, true, true, true, false, false, false, false, false, false, false, false, false, false, false, false, false, false, false, false, false, false, false] rfl rfl (any_of HT_.out (by kernel_rfl)) (fun _ _ _ h => h) (Or.inl ⟨by rfl, ?_⟩) ?_ ?_
          rotate_left
          ·intro w'
           go_simp
           with_reducible rfl
          rotate_left
          ·simp only [Act.put, List.setIfInBounds_toArray, List.set_cons_zero, List.set_cons_succ, i64_w, i32_w]
           rfl
          refine pure_ (i := 23) (N := some 51) (v := ?_) (a' := ?_) #[true, true, true, true, true, true, true, true, true, true, true, true, true, true, true, true, true, true, true, true, true, true, true, true, false, false, false, false, false, false, false, false, false, false, false, false, false, false, false, false, false, false] rfl rfl (any_of HT_.out (by kernel_rfl)) (fun _ _ _ h => h) (Or.inl ⟨by rfl, ?_⟩) ?_ ?_
          rotate_left
          ·intro w'
           go_simp
           with_reducible rfl
          rotate_left
          ·simp only [Act.put, List.setIfInBounds_toArray, List.set_cons_zero, List.set_cons_succ, i64_w, i32_w]
           rfl
          refine pure_ (i := 24) (N := some 52) (v := ?_) (a' := ?_) #[true, true, true, true, true, true, true, true, true, true, true, true, true, true, true, true, true, true, true, true, true, true, true, true, true, false, false, false, false, false, false, false, false, false, false, false, false, false, false, false, false, false] rfl rfl (any_of HT_.out (by kernel_rfl)) (fun _ _ _ h => h) (Or.inl ⟨by rfl, ?_⟩) ?_ ?_
          rotate_left
          ·intro w'
           go_simp
           with_reducible rfl
          rotate_left
          ·simp only [Act.put, List.setIfInBounds_toArray, List.set_cons_zero, List.set_cons_succ, i64_w, i32_w]
           rfl
          refine pure_ (i := 25) (N := some 53) (v := ?_) (a' := ?_) #[true, true, true, true, true, true, true, true, true, true, true, true, true, true, true, true, true, true, true, true, true, true, true, true, true, true, false, false, false, false, false, false, false, false, false, false, false, false, false, false, false, false] rfl rfl (any_of HT_.out (by kernel_rfl)) (fun _ _ _ h => h) (Or.inl ⟨by rfl, ?_⟩) ?_ ?_
          rotate_left
          ·intro w'
           go_simp
           with_reducible rfl
          rotate_left
          ·simp only [Act.put, List.setIfInBounds_toArray, List.set_cons_zero, List.set_cons_succ, i64_w, i32_w]
           rfl
          refine take_ (i := 26) (N := some 54) (v := ?_) (a' := ?_) #[true, true, true, true, true, true, true, true, true, true, true, true, true, true, true, true, true, true, true, true, true, true, true, true, true, true, true, false, false, false, false, false, false, false, false, false, false, false, false, false, false, false] rfl rfl (take_ofW HT_.out HW_.out (by kernel_rfl)) (fun _ _ _ h => h) (Or.inl ⟨by rfl, ?_⟩) hHeld ?_ ?_
          rotate_left
          ·rintro w' ⟨s0, s1⟩
           go_simp
           with_reducible rfl
          rotate_left
          ·simp only [Act.put, List.setIfInBounds_toArray, List.set_cons_zero, List.set_cons_succ, i64_w, i32_w]
           rfl
          refine one_ (i := 27) (N := some 55) #[true, true, true, true, true, true, true, true, true, true, true, true, true, true, true, true, true, true, true, true, true, true, true, true, true, true, true, true, false, false, false, false, false, false, false, false, false, false, false, false, false, false] rfl rfl (one_of HT_.out (by kernel_rfl)) (by decide) (fun K hK => ?_)
          refine Kd.R_lit_step (Kd.int .i64) _ 2 ?hg (N := 55) ?hd (xs := ([4, 5, 0] : List Int)) (inner := [.int .i64 4, .int .i64 5, .int .i64 0]) (ok := fun _ => True) (okp := fun _ => True) ?hr ?hp (fun _ hk => hk) trivial (Below.refl _ _) (Nat.le_refl _) (by simp) ?_; (case hd => rfl); (case hg => rfl); (case hr => first | (go_simp; done) | (go_simp; rfl)); (case hp => exact (Reps.one (show Kd.M (Kd.int .i64) _ _ _ 4 [.int .i64 4] from rfl) (Reps.one (show Kd.M (Kd.int .i64) _ _ _ 5 [.int .i64 5] from rfl) (Reps.one (show Kd.M (Kd.int .i64) _ _ _ 0 [.int .i64 0] from rfl) (Reps.none _ _)))))
          intro v425 w57 ho58 hb hg_ hnew_
          have HS0_ := (hb.cell (World.block_lt_of_cell? _ _ (hHeld.1))).trans (hHeld.1)
          have HS1_ := (hb.cell (World.block_lt_of_cell? _ _ (hHeld.2))).trans (hHeld.2)
          clear hg_ hnew_
          (first | rw [← Ny424.out] at ho58 | (simp only [Int.reduceToNat] at ho58; rw [← Ny424.out] at ho58))
          have n0_ := Aside0.mk (Kd.R_elder' (lR HO380) (Kd.R_base ho58) hb)
          have n1_ := Aside0.mk (Kd.N_elder' (lN HO383) (Kd.R_base ho58) hb)
          have n2_ := Aside0.mk (Kd.N_elder' (lN HO386) (Kd.R_base ho58) hb)
          have n3_ := Aside0.mk (Kd.R_elder' (lR HO392) (Kd.R_base ho58) hb)
          have n4_ := Aside0.mk (Kd.R_elder' (lR HO398) (Kd.R_base ho58) hb)
          have n5_ := Aside0.mk (Kd.R_elder' (lR HO404) (Kd.R_base ho58) hb)
          have n6_ := Aside0.mk (Kd.N_elder' (lN HO410) (Kd.R_base ho58) hb)
          have n7_ := Aside0.mk (Kd.V_elder' (lV HO413) (Kd.R_base ho58) hb)
          have n8_ := Aside0.mk (Kd.V_elder' (lV HL415_0) (Kd.R_base ho58) hb)
          have n9_ := Aside0.mk (Kd.R_elder' (lR HO418) (Kd.R_base ho58) hb)
          have n10_ := Aside0.mk (Kd.N_elder' (lN HO421) (Kd.R_base ho58) hb)
          have n11_ := Aside0.mk (Kd.V_elder' (lV HL423_0) (Kd.R_base ho58) hb)
          have n12_ := Aside0.mk (Kd.R_lower (Kd.R_new' (Kd.R_new' (Kd.R_new' (Kd.R_new' (Kd.R_new' ho58 (Kd.R_lt (lR HO380))) (Kd.R_lt (lR HO392))) (Kd.R_lt (lR HO398))) (Kd.R_lt (lR HO404))) (Kd.R_lt (lR HO418))) (below_size (lB HB)))
          have n13_ := Aside0.mk (Kd.C_below (by repeat (first | (with_reducible exact HR415_0.out) | (with_reducible refine Kd.C_alloc ?_ _) | (with_reducible refine Kd.C_drewN ?_ _) | (with_reducible refine Kd.C_drew ?_) | exact HR415_0.out)) hb)
          have n14_ := Aside0.mk (Kd.C_below (by repeat (first | (with_reducible exact HR423_0.out) | (with_reducible refine Kd.C_alloc ?_ _) | (with_reducible refine Kd.C_drewN ?_ _) | (with_reducible refine Kd.C_drew ?_) | exact HR423_0.out)) hb)
          have n15_ := Aside0.mk (below_step (lB HB) hb)
          clear HO380
          clear HO383
          clear HO386
          clear HO392
          clear HO398
          clear HO404
          clear HO410
          clear HO413
          clear HL415_0
          clear HO418
          clear HO421
          clear HL423_0
          clear HR415_0
          clear HR423_0
          clear HB
          have HO380 := n0_
          have HO383 := n1_
          have HO386 := n2_
          have HO392 := n3_
          have HO398 := n4_
          have HO404 := n5_
          have HO410 := n6_
          have HO413 := n7_
          have HL415_0 := n8_
          have HO418 := n9_
          have HO421 := n10_
          have HL423_0 := n11_
          have HO426 := n12_
          have HR415_0 := n13_
          have HR423_0 := n14_
          have HB := n15_
          clear n0_ n1_ n2_ n3_ n4_ n5_ n6_ n7_ n8_ n9_ n10_ n11_ n12_ n13_ n14_ n15_
          clear hb ho58
          obtain ⟨Ao59, co59, eo59⟩ := Kd.R_slice HO426.out
          (first | subst eo59 | (injection eo59 with f1_ f2_ f3_; have f4_ := f1_.symm; have f5_ := f3_.symm; clear f1_ f2_ f3_; subst f4_; subst f5_))
          refine hK.out _ _ ⟨HS0_, HS1_⟩ (fun hHeld => ?_)
          clear hK K
          refine norm_ (a' := ?_) ?_ ?_
          rotate_left
          ·show Act.put _ (some 55) _ = _
           simp only [Act.put, List.setIfInBounds_toArray, List.set_cons_zero, List.set_cons_succ, i64_w, i32_w]
           rfl
          refine one_ (i := 28) (N := some 56) #[true, true, true, true, true, true, true, true, true, true, true, true, true, true, true, true, true, true, true, true, true, true, true, true, true, true, true, true, true, false, false, false, false, false, false, false, false, false, false, false, false, false] rfl rfl (one_of HT_.out (by kernel_rfl)) (by decide) (fun K hK => ?_)
          refine goes_ Tryd.func15 (by kernel_rfl) rfl #[.slice Ao59 y424.length co59] (by rfl) rfl rfl (by (try simp only [List.map_toArray, List.map_cons, List.map_nil]); first | done | rfl | (simp only [List.length_drop, List.length_take]; rfl)) ?_
          with_reducible refine (swagelaw21_ref.calls k _ _ y424 t427 _ ?side1 ?side2 A17.out).mono ?_
          (case side1 => repeat (first | exact (Kd.R_reads' HO426.out).2.2 | (with_reducible refine Kd.C_alloc ?_ _) | (with_reducible refine Kd.C_drewN ?_ _) | (with_reducible refine Kd.C_drew ?_)))
          (case side2 => exact (Kd.R_reads' HO426.out).2.1)
          rintro e w60 ⟨v428, rfl, ho0, hb⟩
          have HS0_ := (hb.cell (World.block_lt_of_cell? _ _ (hHeld.1))).trans (hHeld.1)
          have HS1_ := (hb.cell (World.block_lt_of_cell? _ _ (hHeld.2))).trans (hHeld.2)
          refine ⟨_, rfl, ?_⟩
          have n0_ := Aside0.mk (Kd.R_below (lR HO380) hb)
          have n1_ := Aside0.mk (Kd.N_elder' (lN HO383) (Kd.N_base ho0) hb)
          have n2_ := Aside0.mk (Kd.N_elder' (lN HO386) (Kd.N_base ho0) hb)
          have n3_ := Aside0.mk (Kd.R_below (lR HO392) hb)
          have n4_ := Aside0.mk (Kd.R_below (lR HO398) hb)
          have n5_ := Aside0.mk (Kd.R_below (lR HO404) hb)
          have n6_ := Aside0.mk (Kd.N_elder' (lN HO410) (Kd.N_base ho0) hb)
          have n7_ := Aside0.mk (Kd.V_elder' (lV HO413) (Kd.N_base ho0) hb)
          have n8_ := Aside0.mk (Kd.V_elder' (lV HL415_0) (Kd.N_base ho0) hb)
          have n9_ := Aside0.mk (Kd.R_below (lR HO418) hb)
          have n10_ := Aside0.mk (Kd.N_elder' (lN HO421) (Kd.N_base ho0) hb)
          have n11_ := Aside0.mk (Kd.V_elder' (lV HL423_0) (Kd.N_base ho0) hb)
          have n12_ := Aside0.mk (Kd.R_below (lR HO426) hb)
          have n13_ := Aside0.mk (Kd.N_lower (Kd.N_mono (ok' := fun k_ => some k_ ≠ (.slice Ao25 y378.length co25 : Value).ownBlock ∧ some k_ ≠ (.slice Ao27 t381.length co27 : Value).ownBlock ∧ some k_ ≠ (.slice (some ad415) t384.length co50 : Value).ownBlock ∧ some k_ ≠ (.slice Ao32 y390.length co32 : Value).ownBlock ∧ some k_ ≠ (.slice Ao36 y396.length co36 : Value).ownBlock ∧ some k_ ≠ (.slice Ao40 y402.length co40 : Value).ownBlock ∧ some k_ ≠ (.slice Ao47 y408.length co47 : Value).ownBlock ∧ some k_ ≠ (.slice Ao53 y416.length co53 : Value).ownBlock ∧ some k_ ≠ (.slice Ao55 t419.length co55 : Value).ownBlock ∧ some k_ ≠ (.slice Ao59 y424.length co59 : Value).ownBlock) ho0 (fun k_ hk_ => ⟨(Kd.fresh' (Kd.R_lt (lR HO380)) k_ hk_), (Kd.fresh' (Kd.N_lt (lN HO383)) k_ hk_), (Kd.fresh' (Kd.N_lt (lN HO386)) k_ hk_), (Kd.fresh' (Kd.R_lt (lR HO392)) k_ hk_), (Kd.fresh' (Kd.R_lt (lR HO398)) k_ hk_), (Kd.fresh' (Kd.R_lt (lR HO404)) k_ hk_), (Kd.fresh' (Kd.N_lt (lN HO410)) k_ hk_), (Kd.fresh' (Kd.R_lt (lR HO418)) k_ hk_), (Kd.fresh' (Kd.N_lt (lN HO421)) k_ hk_), (Kd.fresh' (Kd.R_lt (lR HO426)) k_ hk_)⟩)) (below_size (lB HB)))
          have n14_ := Aside0.mk (Kd.C_below (by repeat (first | (with_reducible exact HR415_0.out) | (with_reducible refine Kd.C_alloc ?_ _) | (with_reducible refine Kd.C_drewN ?_ _) | (with_reducible refine Kd.C_drew ?_) | exact HR415_0.out)) hb)
          have n15_ := Aside0.mk (Kd.C_below (by repeat (first | (with_reducible exact HR423_0.out) | (with_reducible refine Kd.C_alloc ?_ _) | (with_reducible refine Kd.C_drewN ?_ _) | (with_reducible refine Kd.C_drew ?_) | exact HR423_0.out)) hb)
          have n16_ := Aside0.mk (below_step (lB HB) hb)
          clear HO380
          clear HO383
          clear HO386
          clear HO392
          clear HO398
          clear HO404
          clear HO410
          clear HO413
          clear HL415_0
          clear HO418
          clear HO421
          clear HL423_0
          clear HO426
          clear HR415_0
          clear HR423_0
          clear HB
          have HO380 := n0_
          have HO383 := n1_
          have HO386 := n2_
          have HO392 := n3_
          have HO398 := n4_
          have HO404 := n5_
          have HO410 := n6_
          have HO413 := n7_
          have HL415_0 := n8_
          have HO418 := n9_
          have HO421 := n10_
          have HL423_0 := n11_
          have HO426 := n12_
          have HO429 := n13_
          have HR415_0 := n14_
          have HR423_0 := n15_
          have HB := n16_
          clear n0_ n1_ n2_ n3_ n4_ n5_ n6_ n7_ n8_ n9_ n10_ n11_ n12_ n13_ n14_ n15_ n16_
          (try clear hb)
          (try clear hb2)
          (try clear hk)
          (try clear hi)
          (try clear ho0)
          obtain ⟨Ao61, co61, eo61⟩ := Kd.N_slice HO429.out
          (first | subst eo61 | (injection eo61 with f1_ f2_ f3_; have f4_ := f1_.symm; have f5_ := f3_.symm; clear f1_ f2_ f3_; subst f4_; subst f5_))
          refine hK.out _ _ ⟨HS0_, HS1_⟩ (fun hHeld => ?_)
          clear hK K
          refine norm_ (a' := ?_) ?_ ?_
          rotate_left
          ·show Act.put _ (some 56) _ = _
           simp only [Act.put, List.setIfInBounds_toArray, List.set_cons_zero, List.set_cons_succ, i64_w, i32_w]
           rfl
          refine one_ (i := 29) (N := some 57) #[true, true, true, true, true, true, true, true, true, true, true, true, true, true, true, true, true, true, true, true, true, true, true, true, true, true, true, true, true, true, false, false, false, false, false, false, false, false, false, false, false, false] rfl rfl (one_of HT_.out (by kernel_rfl)) (by decide) (fun K hK => ?_)
          refine goes_ Tryd.func16 (by kernel_rfl) rfl #[.slice A423_0 (rd_L5 t384 1).length c423_0, .slice Ao61 t427.length co61] (by rfl) rfl rfl (by (try simp only [List.map_toArray, List.map_cons, List.map_nil]); first | done | rfl | (simp only [List.length_drop, List.length_take]; rfl)) ?_
          with_reducible refine (swagelaw21_is.calls k _ _ (rd_L5 t384 1) _ _ t427 true _ ?side1 ?side2 ?side3 ?side4 A18.out).mono ?_
          (case side1 => repeat (first | exact (by repeat (first | (with_reducible exact HR423_0.out) | (with_reducible refine Kd.C_alloc ?_ _) | (with_reducible refine Kd.C_drewN ?_ _) | (with_reducible refine Kd.C_drew ?_) | exact HR423_0.out)) | (with_reducible refine Kd.C_alloc ?_ _) | (with_reducible refine Kd.C_drewN ?_ _) | (with_reducible refine Kd.C_drew ?_)))
          (case side2 => exact HC423_0.out)
          (case side3 => repeat (first | exact (Kd.N_reads' HO429.out).2.2 | (with_reducible refine Kd.C_alloc ?_ _) | (with_reducible refine Kd.C_drewN ?_ _) | (with_reducible refine Kd.C_drew ?_)))
          (case side4 => exact (Kd.N_reads' HO429.out).2.1)
          rintro e w62 ⟨rfl, hb⟩
          have HS0_ := (hb.cell (World.block_lt_of_cell? _ _ (hHeld.1))).trans (hHeld.1)
          have HS1_ := (hb.cell (World.block_lt_of_cell? _ _ (hHeld.2))).trans (hHeld.2)
          refine ⟨_, rfl, ?_⟩
          have n0_ := Aside0.mk (Kd.R_below (lR HO380) hb)
          have n1_ := Aside0.mk (Kd.N_below (lN HO383) hb)
          have n2_ := Aside0.mk (Kd.N_below (lN HO386) hb)
          have n3_ := Aside0.mk (Kd.R_below (lR HO392) hb)
          have n4_ := Aside0.mk (Kd.R_below (lR HO398) hb)
          have n5_ := Aside0.mk (Kd.R_below (lR HO404) hb)
          have n6_ := Aside0.mk (Kd.N_below (lN HO410) hb)
          have n7_ := Aside0.mk (Kd.V_below (lV HO413) hb)
          have n8_ := Aside0.mk (Kd.V_below (lV HL415_0) hb)
          have n9_ := Aside0.mk (Kd.R_below (lR HO418) hb)
          have n10_ := Aside0.mk (Kd.N_below (lN HO421) hb)
          have n11_ := Aside0.mk (Kd.V_below (lV HL423_0) hb)
          have n12_ := Aside0.mk (Kd.R_below (lR HO426) hb)
          have n13_ := Aside0.mk (Kd.N_below (lN HO429) hb)
          have n14_ := Aside0.mk (Kd.C_below (by repeat (first | (with_reducible exact HR415_0.out) | (with_reducible refine Kd.C_alloc ?_ _) | (with_reducible refine Kd.C_drewN ?_ _) | (with_reducible refine Kd.C_drew ?_) | exact HR415_0.out)) hb)
          have n15_ := Aside0.mk (Kd.C_below (by repeat (first | (with_reducible exact HR423_0.out) | (with_reducible refine Kd.C_alloc ?_ _) | (with_reducible refine Kd.C_drewN ?_ _) | (with_reducible refine Kd.C_drew ?_) | exact HR423_0.out)) hb)
          have n16_ := Aside0.mk (below_step (lB HB) hb)
          clear HO380
          clear HO383
          clear HO386
          clear HO392
          clear HO398
          clear HO404
          clear HO410
          clear HO413
          clear HL415_0
          clear HO418
          clear HO421
          clear HL423_0
          clear HO426
          clear HO429
          clear HR415_0
          clear HR423_0
          clear HB
          have HO380 := n0_
          have HO383 := n1_
          have HO386 := n2_
          have HO392 := n3_
          have HO398 := n4_
          have HO404 := n5_
          have HO410 := n6_
          have HO413 := n7_
          have HL415_0 := n8_
          have HO418 := n9_
          have HO421 := n10_
          have HL423_0 := n11_
          have HO426 := n12_
          have HO429 := n13_
          have HR415_0 := n14_
          have HR423_0 := n15_
          have HB := n16_
          clear n0_ n1_ n2_ n3_ n4_ n5_ n6_ n7_ n8_ n9_ n10_ n11_ n12_ n13_ n14_ n15_ n16_
          (try clear hb)
          (try clear hb2)
          (try clear hk)
          (try clear hi)
          refine hK.out _ _ ⟨HS0_, HS1_⟩ (fun hHeld => ?_)
          clear hK K
          refine norm_ (a' := ?_) ?_ ?_
          rotate_left
          ·show Act.put _ (some 57) _ = _
           simp only [Act.put, List.setIfInBounds_toArray, List.set_cons_zero, List.set_cons_succ, i64_w, i32_w]
           rfl
          refine pure_ (i := 30) (N := some 58) (v := ?_) (a' := ?_) #[true, true, true, true, true, true, true, true, true, true, true, true, true, true, true, true, true, true, true, true, true, true, true, true, true, true, true, true, true, true, true, false, false, false, false, false, false, false, false, false, false, false] rfl rfl (any_of HT_.out (by kernel_rfl)) (fun _ _ _ h => h) (Or.inl ⟨by rfl, ?_⟩) ?_ ?_
          rotate_left
          ·intro w'
           go_simp
           with_reducible rfl
          rotate_left
          ·simp only [Act.put, List.setIfInBounds_toArray, List.set_cons_zero, List.set_cons_succ, i64_w, i32_w]
           rfl
          refine pure_ (i := 31) (N := some 59) (v := ?_) (a' := ?_) #[true, true, true, true, true, true, true, true, true, true, true, true, true, true, true, true, true, true, true, true, true, true, true, true, true, true, true, true, true, true, true, true, false, false, false, false, false, false, false, false, false, false] rfl rfl (any_of HT_.out (by kernel_rfl)) (fun _ _ _ h => h) (Or.inl ⟨by rfl, ?_⟩) ?_ ?_
          rotate_left
          ·intro w'
           go_simp
           with_reducible rfl
          rotate_left
          ·simp only [Act.put, List.setIfInBounds_toArray, List.set_cons_zero, List.set_cons_succ, i64_w, i32_w]
           rfl
          refine pure_ (i := 32) (N := some 60) (v := ?_) (a' := ?_) #[true, true, true, true, true, true, true, true, true, true, true, true, true, true, true, true, true, true, true, true, true, true, true, true, true, true, true, true, true, true, true, true, true, false, false, false, false, false, false, false, false, false] rfl rfl (any_of HT_.out (by kernel_rfl)) (fun _ _ _ h => h) (Or.inl ⟨by rfl, ?_⟩) ?_ ?_
          rotate_left
          ·intro w'
           go_simp
           with_reducible rfl
          rotate_left
          ·simp only [Act.put, List.setIfInBounds_toArray, List.set_cons_zero, List.set_cons_succ, i64_w, i32_w]
           rfl
          refine pure_ (i := 33) (N := some 61) (v := ?_) (a' := ?_) #[true, true, true, true, true, true, true, true, true, true, true, true, true, true, true, true, true, true, true, true, true, true, true, true, true, true, true, true, true, true, true, true, true, true, false, false, false, false, false, false, false, false] rfl rfl (any_of HT_.out (by kernel_rfl)) (fun _ _ _ h => h) (Or.inl ⟨by rfl, ?_⟩) ?_ ?_
          rotate_left
          ·intro w'
           go_simp
           with_reducible rfl
          rotate_left
          ·simp only [Act.put, List.setIfInBounds_toArray, List.set_cons_zero, List.set_cons_succ, i64_w, i32_w]
           rfl
          refine pure_ (i := 34) (N := some 62) (v := ?_) (a' := ?_) #[true, true, true, true, true, true, true, true, true, true, true, true, true, true, true, true, true, true, true, true, true, true, true, true, true, true, true, true, true, true, true, true, true, true, true, false, false, false, false, false, false, false] rfl rfl (any_of HT_.out (by kernel_rfl)) (fun _ _ _ h => h) (Or.inl ⟨by rfl, ?_⟩) ?_ ?_
          rotate_left
          ·intro w'
           go_simp
           with_reducible rfl
          rotate_left
          ·simp only [Act.put, List.setIfInBounds_toArray, List.set_cons_zero, List.set_cons_succ, i64_w, i32_w]
           rfl
          refine pure_ (i := 35) (N := some 63) (v := ?_) (a' := ?_) #[true, true, true, true, true, true, true, true, true, true, true, true, true, true, true, true, true, true, true, true, true, true, true, true, true, true, true, true, true, true, true, true, true, true, true, true, false, false, false, false, false, false] rfl rfl (any_of HT_.out (by kernel_rfl)) (fun _ _ _ h => h) (Or.inl ⟨by rfl, ?_⟩) ?_ ?_
          rotate_left
          ·intro w'
           go_simp
           with_reducible rfl
          rotate_left
          ·simp only [Act.put, List.setIfInBounds_toArray, List.set_cons_zero, List.set_cons_succ, i64_w, i32_w]
           rfl
          refine pure_ (i := 36) (N := some 64) (v := ?_) (a' := ?_) #[true, true, true, true, true, true, true, true, true, true, true, true, true, true, true, true, true, true, true, true, true, true, true, true, true, true, true, true, true, true, true, true, true, true, true, true, true, false, false, false, false, false] rfl rfl (any_of HT_.out (by kernel_rfl)) (fun _ _ _ h => h) (Or.inl ⟨by rfl, ?_⟩) ?_ ?_
          rotate_left
          ·intro w'
           go_simp
           with_reducible rfl
          rotate_left
          ·simp only [Act.put, List.setIfInBounds_toArray, List.set_cons_zero, List.set_cons_succ, i64_w, i32_w]
           rfl
          refine one_ (i := 37) (N := some 65) #[true, true, true, true, true, true, true, true, true, true, true, true, true, true, true, true, true, true, true, true, true, true, true, true, true, true, true, true, true, true, true, true, true, true, true, true, true, true, false, false, false, false] rfl rfl (one_of HT_.out (by kernel_rfl)) (by decide) (fun K hK => ?_)
          refine Kd.R_lit_step (Kd.int .i64) _ 2 ?hg (N := 65) ?hd (xs := ([1, 2, 13, 20, 130] : List Int)) (inner := [.int .i64 1, .int .i64 2, .int .i64 13, .int .i64 20, .int .i64 130]) (ok := fun _ => True) (okp := fun _ => True) ?hr ?hp (fun _ hk => hk) trivial (Below.refl _ _) (Nat.le_refl _) (by simp) ?_; (case hd => rfl); (case hg => rfl); (case hr => first | (go_simp; done) | (go_simp; rfl)); (case hp => exact (Reps.one (show Kd.M (Kd.int .i64) _ _ _ 1 [.int .i64 1] from rfl) (Reps.one (show Kd.M (Kd.int .i64) _ _ _ 2 [.int .i64 2] from rfl) (Reps.one (show Kd.M (Kd.int .i64) _ _ _ 13 [.int .i64 13] from rfl) (Reps.one (show Kd.M (Kd.int .i64) _ _ _ 20 [.int .i64 20] from rfl) (Reps.one (show Kd.M (Kd.int .i64) _ _ _ 130 [.int .i64 130] from rfl) (Reps.none _ _)))))))
          intro v432 w63 ho64 hb hg_ hnew_
          have HS0_ := (hb.cell (World.block_lt_of_cell? _ _ (hHeld.1))).trans (hHeld.1)
          have HS1_ := (hb.cell (World.block_lt_of_cell? _ _ (hHeld.2))).trans (hHeld.2)
          clear hg_ hnew_
          (first | rw [← Ny431.out] at ho64 | (simp only [Int.reduceToNat] at ho64; rw [← Ny431.out] at ho64))
          have n0_ := Aside0.mk (Kd.R_elder' (lR HO380) (Kd.R_base ho64) hb)
          have n1_ := Aside0.mk (Kd.N_elder' (lN HO383) (Kd.R_base ho64) hb)
          have n2_ := Aside0.mk (Kd.N_elder' (lN HO386) (Kd.R_base ho64) hb)
          have n3_ := Aside0.mk (Kd.R_elder' (lR HO392) (Kd.R_base ho64) hb)
          have n4_ := Aside0.mk (Kd.R_elder' (lR HO398) (Kd.R_base ho64) hb)
          have n5_ := Aside0.mk (Kd.R_elder' (lR HO404) (Kd.R_base ho64) hb)
          have n6_ := Aside0.mk (Kd.N_elder' (lN HO410) (Kd.R_base ho64) hb)
          have n7_ := Aside0.mk (Kd.V_elder' (lV HO413) (Kd.R_base ho64) hb)
          have n8_ := Aside0.mk (Kd.V_elder' (lV HL415_0) (Kd.R_base ho64) hb)
          have n9_ := Aside0.mk (Kd.R_elder' (lR HO418) (Kd.R_base ho64) hb)
          have n10_ := Aside0.mk (Kd.N_elder' (lN HO421) (Kd.R_base ho64) hb)
          have n11_ := Aside0.mk (Kd.V_elder' (lV HL423_0) (Kd.R_base ho64) hb)
          have n12_ := Aside0.mk (Kd.R_elder' (lR HO426) (Kd.R_base ho64) hb)
          have n13_ := Aside0.mk (Kd.N_elder' (lN HO429) (Kd.R_base ho64) hb)
          have n14_ := Aside0.mk (Kd.R_lower (Kd.R_new' (Kd.R_new' (Kd.R_new' (Kd.R_new' (Kd.R_new' (Kd.R_new' ho64 (Kd.R_lt (lR HO380))) (Kd.R_lt (lR HO392))) (Kd.R_lt (lR HO398))) (Kd.R_lt (lR HO404))) (Kd.R_lt (lR HO418))) (Kd.R_lt (lR HO426))) (below_size (lB HB)))
          have n15_ := Aside0.mk (Kd.C_below (by repeat (first | (with_reducible exact HR415_0.out) | (with_reducible refine Kd.C_alloc ?_ _) | (with_reducible refine Kd.C_drewN ?_ _) | (with_reducible refine Kd.C_drew ?_) | exact HR415_0.out)) hb)
          have n16_ := Aside0.mk (Kd.C_below (by repeat (first | (with_reducible exact HR423_0.out) | (with_reducible refine Kd.C_alloc ?_ _) | (with_reducible refine Kd.C_drewN ?_ _) | (with_reducible refine Kd.C_drew ?_) | exact HR423_0.out)) hb)
          have n17_ := Aside0.mk (below_step (lB HB) hb)
          clear HO380
          clear HO383
          clear HO386
          clear HO392
          clear HO398
          clear HO404
          clear HO410
          clear HO413
          clear HL415_0
          clear HO418
          clear HO421
          clear HL423_0
          clear HO426
          clear HO429
          clear HR415_0
          clear HR423_0
          clear HB
          have HO380 := n0_
          have HO383 := n1_
          have HO386 := n2_
          have HO392 := n3_
          have HO398 := n4_
          have HO404 := n5_
          have HO410 := n6_
          have HO413 := n7_
          have HL415_0 := n8_
          have HO418 := n9_
          have HO421 := n10_
          have HL423_0 := n11_
          have HO426 := n12_
          have HO429 := n13_
          have HO433 := n14_
          have HR415_0 := n15_
          have HR423_0 := n16_
          have HB := n17_
          clear n0_ n1_ n2_ n3_ n4_ n5_ n6_ n7_ n8_ n9_ n10_ n11_ n12_ n13_ n14_ n15_ n16_ n17_
          clear hb ho64
          obtain ⟨Ao65, co65, eo65⟩ := Kd.R_slice HO433.out
          (first | subst eo65 | (injection eo65 with f1_ f2_ f3_; have f4_ := f1_.symm; have f5_ := f3_.symm; clear f1_ f2_ f3_; subst f4_; subst f5_))
          refine hK.out _ _ ⟨HS0_, HS1_⟩ (fun hHeld => ?_)
          clear hK K
          refine norm_ (a' := ?_) ?_ ?_
          rotate_left
          ·show Act.put _ (some 65) _ = _
           simp only [Act.put, List.setIfInBounds_toArray, List.set_cons_zero, List.set_cons_succ, i64_w, i32_w]
           rfl
          refine one_ (i := 38) (N := some 66) #[true, true, true, true, true, true, true, true, true, true, true, true, true, true, true, true, true, true, true, true, true, true, true, true, true, true, true, true, true, true, true, true, true, true, true, true, true, true, true, false, false, false] rfl rfl (one_of HT_.out (by kernel_rfl)) (by decide) (fun K hK => ?_)
          refine goes_ Tryd.func15 (by kernel_rfl) rfl #[.slice Ao65 y431.length co65] (by rfl) rfl rfl (by (try simp only [List.map_toArray, List.map_cons, List.map_nil]); first | done | rfl | (simp only [List.length_drop, List.length_take]; rfl)) ?_
          with_reducible refine (swagelaw21_ref.calls k _ _ y431 t434 _ ?side1 ?side2 A21.out).mono ?_
          (case side1 => repeat (first | exact (Kd.R_reads' HO433.out).2.2 | (with_reducible refine Kd.C_alloc ?_ _) | (with_reducible refine Kd.C_drewN ?_ _) | (with_reducible refine Kd.C_drew ?_)))
          (case side2 => exact (Kd.R_reads' HO433.out).2.1)
          rintro e w66 ⟨v435, rfl, ho0, hb⟩
          have HS0_ := (hb.cell (World.block_lt_of_cell? _ _ (hHeld.1))).trans (hHeld.1)
          have HS1_ := (hb.cell (World.block_lt_of_cell? _ _ (hHeld.2))).trans (hHeld.2)
          refine ⟨_, rfl, ?_⟩
          have n0_ := Aside0.mk (Kd.R_below (lR HO380) hb)
          have n1_ := Aside0.mk (Kd.N_elder' (lN HO383) (Kd.N_base ho0) hb)
          have n2_ := Aside0.mk (Kd.N_elder' (lN HO386) (Kd.N_base ho0) hb)
          have n3_ := Aside0.mk (Kd.R_below (lR HO392) hb)
          have n4_ := Aside0.mk (Kd.R_below (lR HO398) hb)
          have n5_ := Aside0.mk (Kd.R_below (lR HO404) hb)
          have n6_ := Aside0.mk (Kd.N_elder' (lN HO410) (Kd.N_base ho0) hb)
          have n7_ := Aside0.mk (Kd.V_elder' (lV HO413) (Kd.N_base ho0) hb)
          have n8_ := Aside0.mk (Kd.V_elder' (lV HL415_0) (Kd.N_base ho0) hb)
          have n9_ := Aside0.mk (Kd.R_below (lR HO418) hb)
          have n10_ := Aside0.mk (Kd.N_elder' (lN HO421) (Kd.N_base ho0) hb)
          have n11_ := Aside0.mk (Kd.V_elder' (lV HL423_0) (Kd.N_base ho0) hb)
          have n12_ := Aside0.mk (Kd.R_below (lR HO426) hb)
          have n13_ := Aside0.mk (Kd.N_elder' (lN HO429) (Kd.N_base ho0) hb)
          have n14_ := Aside0.mk (Kd.R_below (lR HO433) hb)
          have n15_ := Aside0.mk (Kd.N_lower (Kd.N_mono (ok' := fun k_ => some k_ ≠ (.slice Ao25 y378.length co25 : Value).ownBlock ∧ some k_ ≠ (.slice Ao27 t381.length co27 : Value).ownBlock ∧ some k_ ≠ (.slice (some ad415) t384.length co50 : Value).ownBlock ∧ some k_ ≠ (.slice Ao32 y390.length co32 : Value).ownBlock ∧ some k_ ≠ (.slice Ao36 y396.length co36 : Value).ownBlock ∧ some k_ ≠ (.slice Ao40 y402.length co40 : Value).ownBlock ∧ some k_ ≠ (.slice Ao47 y408.length co47 : Value).ownBlock ∧ some k_ ≠ (.slice Ao53 y416.length co53 : Value).ownBlock ∧ some k_ ≠ (.slice Ao55 t419.length co55 : Value).ownBlock ∧ some k_ ≠ (.slice Ao59 y424.length co59 : Value).ownBlock ∧ some k_ ≠ (.slice Ao61 t427.length co61 : Value).ownBlock ∧ some k_ ≠ (.slice Ao65 y431.length co65 : Value).ownBlock) ho0 (fun k_ hk_ => ⟨(Kd.fresh' (Kd.R_lt (lR HO380)) k_ hk_), (Kd.fresh' (Kd.N_lt (lN HO383)) k_ hk_), (Kd.fresh' (Kd.N_lt (lN HO386)) k_ hk_), (Kd.fresh' (Kd.R_lt (lR HO392)) k_ hk_), (Kd.fresh' (Kd.R_lt (lR HO398)) k_ hk_), (Kd.fresh' (Kd.R_lt (lR HO404)) k_ hk_), (Kd.fresh' (Kd.N_lt (lN HO410)) k_ hk_), (Kd.fresh' (Kd.R_lt (lR HO418)) k_ hk_), (Kd.fresh' (Kd.N_lt (lN HO421)) k_ hk_), (Kd.fresh' (Kd.R_lt (lR HO426)) k_ hk_), (Kd.fresh' (Kd.N_lt (lN HO429)) k_ hk_), (Kd.fresh' (Kd.R_lt (lR HO433)) k_ hk_)⟩)) (below_size (lB HB)))
          have n16_ := Aside0.mk (Kd.C_below (by repeat (first | (with_reducible exact HR415_0.out) | (with_reducible refine Kd.C_alloc ?_ _) | (with_reducible refine Kd.C_drewN ?_ _) | (with_reducible refine Kd.C_drew ?_) | exact HR415_0.out)) hb)
          have n17_ := Aside0.mk (Kd.C_below (by repeat (first | (with_reducible exact HR423_0.out) | (with_reducible refine Kd.C_alloc ?_ _) | (with_reducible refine Kd.C_drewN ?_ _) | (with_reducible refine Kd.C_drew ?_) | exact HR423_0.out)) hb)
          have n18_ := Aside0.mk (below_step (lB HB) hb)
          clear HO380
          clear HO383
          clear HO386
          clear HO392
          clear HO398
          clear HO404
          clear HO410
          clear HO413
          clear HL415_0
          clear HO418
          clear HO421
          clear HL423_0
          clear HO426
          clear HO429
          clear HO433
          clear HR415_0
          clear HR423_0
          clear HB
          have HO380 := n0_
          have HO383 := n1_
          have HO386 := n2_
          have HO392 := n3_
          have HO398 := n4_
          have HO404 := n5_
          have HO410 := n6_
          have HO413 := n7_
          have HL415_0 := n8_
          have HO418 := n9_
          have HO421 := n10_
          have HL423_0 := n11_
          have HO426 := n12_
          have HO429 := n13_
          have HO433 := n14_
          have HO436 := n15_
          have HR415_0 := n16_
          have HR423_0 := n17_
          have HB := n18_
          clear n0_ n1_ n2_ n3_ n4_ n5_ n6_ n7_ n8_ n9_ n10_ n11_ n12_ n13_ n14_ n15_ n16_ n17_ n18_
          (try clear hb)
          (try clear hb2)
          (try clear hk)
          (try clear hi)
          (try clear ho0)
          obtain ⟨Ao67, co67, eo67⟩ := Kd.V_slice HO413.out
          (first | subst eo67 | (injection eo67 with f1_ f2_ f3_; have f4_ := f1_.symm; have f5_ := f3_.symm; clear f1_ f2_ f3_; subst f4_; subst f5_))
          obtain ⟨Ao68, co68, eo68⟩ := Kd.N_slice HO436.out
          (first | subst eo68 | (injection eo68 with f1_ f2_ f3_; have f4_ := f1_.symm; have f5_ := f3_.symm; clear f1_ f2_ f3_; subst f4_; subst f5_))
          refine hK.out _ _ ⟨HS0_, HS1_⟩ (fun hHeld => ?_)
          clear hK K
          refine norm_ (a' := ?_) ?_ ?_
          rotate_left
          ·show Act.put _ (some 66) _ = _
           simp only [Act.put, List.setIfInBounds_toArray, List.set_cons_zero, List.set_cons_succ, i64_w, i32_w]
           rfl
          refine one_ (i := 39) (N := some 67) #[true, true, true, true, true, true, true, true, true, true, true, true, true, true, true, true, true, true, true, true, true, true, true, true, true, true, true, true, true, true, true, true, true, true, true, true, true, true, true, true, false, false] rfl rfl (one_of HT_.out (by kernel_rfl)) (by decide) (fun K hK => ?_)
          refine goes_ Tryd.func16 (by kernel_rfl) rfl #[.slice Ao67 t411.length co67, .slice Ao68 t434.length co68] (by rfl) rfl rfl (by (try simp only [List.map_toArray, List.map_cons, List.map_nil]); first | done | rfl | (simp only [List.length_drop, List.length_take]; rfl)) ?_
          with_reducible refine (swagelaw21_is.calls k _ _ t411 _ _ t434 t437 _ ?side1 ?side2 ?side3 ?side4 A22.out).mono ?_
          (case side1 => repeat (first | exact (Kd.V_reads' HO413.out).2.2 | (with_reducible refine Kd.C_alloc ?_ _) | (with_reducible refine Kd.C_drewN ?_ _) | (with_reducible refine Kd.C_drew ?_)))
          (case side2 => exact (Kd.V_reads' HO413.out).2.1)
          (case side3 => repeat (first | exact (Kd.N_reads' HO436.out).2.2 | (with_reducible refine Kd.C_alloc ?_ _) | (with_reducible refine Kd.C_drewN ?_ _) | (with_reducible refine Kd.C_drew ?_)))
          (case side4 => exact (Kd.N_reads' HO436.out).2.1)
          rintro e w69 ⟨rfl, hb⟩
          have HS0_ := (hb.cell (World.block_lt_of_cell? _ _ (hHeld.1))).trans (hHeld.1)
          have HS1_ := (hb.cell (World.block_lt_of_cell? _ _ (hHeld.2))).trans (hHeld.2)
          refine ⟨_, rfl, ?_⟩
          have n0_ := Aside0.mk (Kd.R_below (lR HO380) hb)
          have n1_ := Aside0.mk (Kd.N_below (lN HO383) hb)
          have n2_ := Aside0.mk (Kd.N_below (lN HO386) hb)
          have n3_ := Aside0.mk (Kd.R_below (lR HO392) hb)
          have n4_ := Aside0.mk (Kd.R_below (lR HO398) hb)
          have n5_ := Aside0.mk (Kd.R_below (lR HO404) hb)
          have n6_ := Aside0.mk (Kd.N_below (lN HO410) hb)
          have n7_ := Aside0.mk (Kd.V_below (lV HO413) hb)
          have n8_ := Aside0.mk (Kd.V_below (lV HL415_0) hb)
          have n9_ := Aside0.mk (Kd.R_below (lR HO418) hb)
          have n10_ := Aside0.mk (Kd.N_below (lN HO421) hb)
          have n11_ := Aside0.mk (Kd.V_below (lV HL423_0) hb)
          have n12_ := Aside0.mk (Kd.R_below (lR HO426) hb)
          have n13_ := Aside0.mk (Kd.N_below (lN HO429) hb)
          have n14_ := Aside0.mk (Kd.R_below (lR HO433) hb)
          have n15_ := Aside0.mk (Kd.N_below (lN HO436) hb)
          have n16_ := Aside0.mk (Kd.C_below (by repeat (first | (with_reducible exact HR415_0.out) | (with_reducible refine Kd.C_alloc ?_ _) | (with_reducible refine Kd.C_drewN ?_ _) | (with_reducible refine Kd.C_drew ?_) | exact HR415_0.out)) hb)
          have n17_ := Aside0.mk (Kd.C_below (by repeat (first | (with_reducible exact HR423_0.out) | (with_reducible refine Kd.C_alloc ?_ _) | (with_reducible refine Kd.C_drewN ?_ _) | (with_reducible refine Kd.C_drew ?_) | exact HR423_0.out)) hb)
          have n18_ := Aside0.mk (below_step (lB HB) hb)
          clear HO380
          clear HO383
          clear HO386
          clear HO392
          clear HO398
          clear HO404
          clear HO410
          clear HO413
          clear HL415_0
          clear HO418
          clear HO421
          clear HL423_0
          clear HO426
          clear HO429
          clear HO433
          clear HO436
          clear HR415_0
          clear HR423_0
          clear HB
          have HO380 := n0_
          have HO383 := n1_
          have HO386 := n2_
          have HO392 := n3_
          have HO398 := n4_
          have HO404 := n5_
          have HO410 := n6_
          have HO413 := n7_
          have HL415_0 := n8_
          have HO418 := n9_
          have HO421 := n10_
          have HL423_0 := n11_
          have HO426 := n12_
          have HO429 := n13_
          have HO433 := n14_
          have HO436 := n15_
          have HR415_0 := n16_
          have HR423_0 := n17_
          have HB := n18_
          clear n0_ n1_ n2_ n3_ n4_ n5_ n6_ n7_ n8_ n9_ n10_ n11_ n12_ n13_ n14_ n15_ n16_ n17_ n18_
          (try clear hb)
          (try clear hb2)
          (try clear hk)
          (try clear hi)
          refine hK.out _ _ ⟨HS0_, HS1_⟩ (fun hHeld => ?_)
          clear hK K
          refine norm_ (a' := ?_) ?_ ?_
          rotate_left
          ·show Act.put _ (some 67) _ = _
           simp only [Act.put, List.setIfInBounds_toArray, List.set_cons_zero, List.set_cons_succ, i64_w, i32_w]
           rfl
          refine pure_ (i := 40) (N := some 68) (v := ?_) (a' := ?_) #[true, true, true, true, true, true, true, true, true, true, true, true, true, true, true, true, true, true, true, true, true, true, true, true, true, true, true, true, true, true, true, true, true, true, true, true, true, true, true, true, true, false] rfl rfl (any_of HT_.out (by kernel_rfl)) (fun _ _ _ h => h) (Or.inl ⟨by rfl, ?_⟩) ?_ ?_
          rotate_left
          ·intro w'
           go_simp
           with_reducible rfl
          rotate_left
          ·simp only [Act.put, List.setIfInBounds_toArray, List.set_cons_zero, List.set_cons_succ, i64_w, i32_w]
           rfl
          refine pure_ (i := 41) (N := some 0) (v := ?_) (a' := ?_) #[true, true, true, true, true, true, true, true, true, true, true, true, true, true, true, true, true, true, true, true, true, true, true, true, true, true, true, true, true, true, true, true, true, true, true, true, true, true, true, true, true, true] rfl rfl (any_of HT_.out (by kernel_rfl)) (fun _ _ _ h => h) (Or.inl ⟨by rfl, ?_⟩) ?_ ?_
          rotate_left
          ·intro w'
           go_simp
           with_reducible rfl
          rotate_left
          ·simp only [Act.put, List.setIfInBounds_toArray, List.set_cons_zero, List.set_cons_succ, i64_w, i32_w]
           rfl
          refine done_ (done_of HT_.out (by kernel_rfl)) ?_
          try go_wp2
          go_ret
          exact ⟨by first | rfl | (simp [errW_none, errW_some] <;> rfl) | (simp [*, errW_none, errW_some] <;> rfl), by repeat (first | (with_reducible first | exact HB.out | apply below_alloc | apply pw_below_drewN | apply below_drew1) | exact HB.out)⟩
         ·rw [if_neg c20] at H
          have c20b0 : (t388 == 3) = false := beq_eq_false_iff_ne.mpr c20
          have c20b1 : (t388 != 3) = true := bne_iff_ne.mpr c20
          obtain rfl := Option.some.inj H
          exact absurd hT.out (by simp)
        ·replace c19 := Bool.eq_false_iff.mpr c19
         subst c19
         have H1 : (some false) = some r := by rw [if_neg (show ¬ (false = true) by decide)] at H; exact H
         clear H
         have H := H1
         clear H1
         obtain rfl := Option.some.inj H
         exact absurd hT.out (by simp)
       ·rw [if_neg c16] at H
        exact absurd H (by simp)
      ·replace c15 := Bool.eq_false_iff.mpr c15
       subst c15
       have H1 : (some false) = some r := by rw [if_neg (show ¬ (false = true) by decide)] at H; exact H
       clear H
       have H := H1
       clear H1
       obtain rfl := Option.some.inj H
       exact absurd hT.out (by simp)
     ·rw [if_neg c12] at H
      exact absurd H (by simp)
    ·rw [if_neg c11] at H
     have c11b0 : ((t384.length : Int) == 2) = false := beq_eq_false_iff_ne.mpr c11
     have c11b1 : ((t384.length : Int) != 2) = true := bne_iff_ne.mpr c11
     obtain rfl := Option.some.inj H
     exact absurd hT.out (by simp)
   ·rw [if_neg c10] at H
    have c10b0 : (t414 == 0) = false := beq_eq_false_iff_ne.mpr c10
    have c10b1 : (t414 != 0) = true := bne_iff_ne.mpr c10
    obtain rfl := Option.some.inj H
    exact absurd hT.out (by simp)
  ·rw [if_neg c9] at H
   have c9b0 : (t389 == 0) = false := beq_eq_false_iff_ne.mpr c9
   have c9b1 : (t389 != 0) = true := bne_iff_ne.mpr c9
   obtain rfl := Option.some.inj H
   exact absurd hT.out (by simp)
 ·rw [if_neg c8] at H
  have c8b0 : (t387 == 0) = false := beq_eq_false_iff_ne.mpr c8
  have c8b1 : (t387 != 0) = true := bne_iff_ne.mpr c8
  obtain rfl := Option.some.inj H
  exact absurd hT.out (by simp)

end Go.Proofs.YtakmkhokbcjapaaDoor.XA
end

section
namespace Go.Proofs.YtakmkhokbcjapaaDoor.XA
open Go.Proofs.YtakmkhokbcjapaaDoor.Lift Go.RowKit Go.Proofs.YtakmkhokbcjapaaDoorW.PrintWords Go.Proofs.YtakmkhokbcjapaaDoorW.PrintLast Go.Proofs.YtakmkhokbcjapaaDoorW.PrintMore
attribute [local go_sem] max2_int min2_int max_two min_two max_three min_three max_four min_four   -- for this text's walks alone
set_option linter.unusedVariables false
set_option linter.unusedSimpArgs false

/-! ### integer_Int_Cmp: function 45 -/
def integer_Int_Cmp.j0 : Nat → Bool → Bool → List Int → Bool → List Int → Option (Int)
 | 0, _, _, _, _, _ => none
 | k + 1, x5, x708000, x708001, x709000, x709001 => if x5 = true then ((limb_Cmp.f k x709001 x708001).bind fun t709 => (some t709)) else (if x708000 = true then (some (-1)) else (if x709000 = true then (some 1) else ((limb_Cmp.f k x708001 x709001).bind fun t710 => (some t710))))
def integer_Int_Cmp.f (k : Nat) (a0_0 : Bool) (l0_1 : List Int) (a1_0 : Bool) (l1_1 : List Int) : Option (Int) := if a0_0 = true then (integer_Int_Cmp.j0 k a1_0 a0_0 l0_1 a1_0 l1_1) else (integer_Int_Cmp.j0 k false a0_0 l0_1 a1_0 l1_1)
set_option maxHeartbeats 8000000 in
set_option maxRecDepth 100000 in
theorem integer_Int_Cmp.calls (k : Nat) (a0_0 : Bool) (A0_1 : Option Addr) (c0_1 : Nat) (l0_1 : List Int) (a1_0 : Bool) (A1_1 : Option Addr) (c1_1 : Nat) (l1_1 : List Int) (r : Int) (w : World) (hr0_1 : Kd.C (Kd.int .u32) w A0_1 l0_1.length l0_1) (hc0_1 : l0_1.length ≤ c0_1) (hr1_1 : Kd.C (Kd.int .u32) w A1_1 l1_1.length l1_1) (hc1_1 : l1_1.length ≤ c1_1) (h : integer_Int_Cmp.f k a0_0 l0_1 a1_0 l1_1 = some r) :
  Calls Tryd.prog 45 #[.agg #[.bool a0_0, .slice A0_1 l0_1.length c0_1], .agg #[.bool a1_0, .slice A1_1 l1_1.length c1_1]] w fun e w' => e = .returned (.int .i64 r) ∧ Below w.heap.size w w' := by
 have hu39 := Tryd.underlying39
 have HR0_1 := Aside0.mk hr0_1
 have HC0_1 := Aside0.mk hc0_1
 clear hr0_1 hc0_1
 have HR1_1 := Aside0.mk hr1_1
 have HC1_1 := Aside0.mk hc1_1
 clear hr1_1 hc1_1
 have HB := Aside0.mk (Below.refl w.heap.size w)
 have H : (if a0_0 = true then (integer_Int_Cmp.j0 k a1_0 a0_0 l0_1 a1_0 l1_1) else (integer_Int_Cmp.j0 k false a0_0 l0_1 a1_0 l1_1)) = some r := h
 clear h
 have HC3 := Aside0.mk H
 clear H
 go_enter Tryd.func45, Tryd.ntmps45
 go_upto_region 1 with (first | ((with_reducible refine gate_dst (N := 2) rfl ?_); refine box_event ?hg (N := 2) ?hd (cs := #[.bool a0_0, .slice A0_1 l0_1.length c0_1]) (t := 39) ?hr ?_; (case hd => rfl); (case hg => rfl); (case hr => first | (go_simp; done) | (go_simp; rfl)); intro gb707 hg w4 hbox hb; have n0_ := Aside0.mk (below_step (lB HB) hb); have n1_ := Aside0.mk (hbox); have n2_ := Aside0.mk ((by rw [hg]; exact (below_size (lB HB)) : w.heap.size ≤ gb707)); have n3_ := Aside0.mk ((by rw [hg]; exact (below_size (lB HB)) : w.heap.size ≤ gb707)); clear HB; have HB := n0_; have BK707 := n1_; have GW707 := n2_; have GE707 := n3_; clear n0_ n1_ n2_ n3_; clear hb hbox hg) | ((with_reducible refine gate_dst (N := 3) rfl ?_); refine box_event ?hg (N := 3) ?hd (cs := #[.bool a1_0, .slice A1_1 l1_1.length c1_1]) (t := 39) ?hr ?_; (case hd => rfl); (case hg => rfl); (case hr => first | (go_simp; done) | (go_simp; rfl)); intro gb708 hg w5 hbox hb; have n0_ := Aside0.mk (blk_below (g := gb707) (o := .cells #[.bool a0_0, .slice A0_1 l0_1.length c0_1] 39 (0, 0)) (lK BK707) hb); have n1_ := Aside0.mk (below_step (by repeat (first | (with_reducible first | exact HB.out | apply below_alloc | apply pw_below_drewN | apply below_drew1 | refine below_set ?_ GE707.out) | exact HB.out)) hb); have n2_ := Aside0.mk (hbox); have n3_ := Aside0.mk ((by rw [hg]; exact (below_size (by repeat (first | (with_reducible first | exact HB.out | apply below_alloc | apply pw_below_drewN | apply below_drew1 | refine below_set ?_ GE707.out) | exact HB.out))) : w.heap.size ≤ gb708)); have n4_ := Aside0.mk ((by rw [hg]; exact (below_size (by repeat (first | (with_reducible first | exact HB.out | apply below_alloc | apply pw_below_drewN | apply below_drew1 | refine below_set ?_ GE707.out) | exact HB.out))) : w.heap.size ≤ gb708)); have n5_ := Aside0.mk ((by rw [hg]; exact Nat.ne_of_lt (blk_lt (g := gb707) (o := .cells #[.bool a0_0, .slice A0_1 l0_1.length c0_1] 39 (0, 0)) (lK BK707)) : gb707 ≠ gb708)); have n6_ := Aside0.mk ((by rw [hg]; exact Nat.ne_of_gt (blk_lt (g := gb707) (o := .cells #[.bool a0_0, .slice A0_1 l0_1.length c0_1] 39 (0, 0)) (lK BK707)) : gb708 ≠ gb707)); clear BK707; clear HB; have BK707 := n0_; have HB := n1_; have BK708 := n2_; have GW708 := n3_; have GE708 := n4_; have NB707_708 := n5_; have NB708_707 := n6_; clear n0_ n1_ n2_ n3_ n4_ n5_ n6_; clear hb hbox hg))
 (try simp only [Act.put, List.setIfInBounds_toArray, List.set_cons_zero, List.set_cons_succ])
 go_cut [5] (fun v5 wc => ∃ (kq : Nat) (x5_2 : Bool), v5 = .bool x5_2 ∧ Aside0 (integer_Int_Cmp.j0 kq x5_2 a0_0 l0_1 a1_0 l1_1 = some r) ∧ Aside0 (kq ≤ k) ∧ Aside0 (wc.heap[gb707]? = some (.cells #[.bool a0_0, (.slice A0_1 l0_1.length c0_1)] 39 (0, 0))) ∧ Aside0 (wc.heap[gb708]? = some (.cells #[.bool a1_0, (.slice A1_1 l1_1.length c1_1)] 39 (0, 0))) ∧ Aside0 (Below w.heap.size w wc))
 case first =>
  have H := HC3.out
  clear HC3
  by_cases c6 : a0_0 = true
  ·subst c6
   have H1 : (integer_Int_Cmp.j0 k a1_0 true l0_1 a1_0 l1_1) = some r := by rw [if_pos rfl] at H; exact H
   clear H
   have H := H1
   clear H1
   have H' := Aside0.mk H
   clear H
   have hnb7 := NB707_708.out
   have hnc7 := NB708_707.out
   have hcz8_0 : w5.cell? ⟨gb707, 0, none⟩ = some (.bool true) := (blk_cell BK707.out 0).trans rfl
   have hcz8_1 : w5.cell? ⟨gb707, 1, none⟩ = some (.slice A0_1 l0_1.length c0_1) := (blk_cell BK707.out 1).trans rfl
   have hfz8_0 := blk_frozen BK707.out 0
   have hfz8_1 := blk_frozen BK707.out 1
   have hcz9_0 : w5.cell? ⟨gb708, 0, none⟩ = some (.bool a1_0) := (blk_cell BK708.out 0).trans rfl
   have hcz9_1 : w5.cell? ⟨gb708, 1, none⟩ = some (.slice A1_1 l1_1.length c1_1) := (blk_cell BK708.out 1).trans rfl
   have hfz9_0 := blk_frozen BK708.out 0
   have hfz9_1 := blk_frozen BK708.out 1
   go_wp2
   go_meet
   case rel => exact ⟨_, (a1_0), (by first | rfl | (simp; done) | (simp [*]; done)), H', ⟨by first | omega | exact Nat.le_refl _⟩, ⟨by (with_reducible repeat (first | refine blk_drewN ?_ _ | refine blk_drew ?_ | refine blk_alloc ?_ _)); exact BK707.out⟩, ⟨by (with_reducible repeat (first | refine blk_drewN ?_ _ | refine blk_drew ?_ | refine blk_alloc ?_ _)); exact BK708.out⟩, ⟨by repeat (first | (with_reducible first | exact HB.out | apply below_alloc | apply pw_below_drewN | apply below_drew1 | refine below_set ?_ GE707.out | refine below_set ?_ GE708.out) | exact HB.out)⟩⟩
  ·replace c6 := Bool.eq_false_iff.mpr c6
   subst c6
   have H1 : (integer_Int_Cmp.j0 k false false l0_1 a1_0 l1_1) = some r := by rw [if_neg (show ¬ (false = true) by decide)] at H; exact H
   clear H
   have H := H1
   clear H1
   have H' := Aside0.mk H
   clear H
   have hnb10 := NB707_708.out
   have hnc10 := NB708_707.out
   have hcz11_0 : w5.cell? ⟨gb707, 0, none⟩ = some (.bool false) := (blk_cell BK707.out 0).trans rfl
   have hcz11_1 : w5.cell? ⟨gb707, 1, none⟩ = some (.slice A0_1 l0_1.length c0_1) := (blk_cell BK707.out 1).trans rfl
   have hfz11_0 := blk_frozen BK707.out 0
   have hfz11_1 := blk_frozen BK707.out 1
   go_wp2
   go_meet
   case rel => exact ⟨_, (false), (by first | rfl | (simp; done) | (simp [*]; done)), H', ⟨by first | omega | exact Nat.le_refl _⟩, ⟨by (with_reducible repeat (first | refine blk_drewN ?_ _ | refine blk_drew ?_ | refine blk_alloc ?_ _)); exact BK707.out⟩, ⟨by (with_reducible repeat (first | refine blk_drewN ?_ _ | refine blk_drew ?_ | refine blk_alloc ?_ _)); exact BK708.out⟩, ⟨by repeat (first | (with_reducible first | exact HB.out | apply below_alloc | apply pw_below_drewN | apply below_drew1 | refine below_set ?_ GE707.out | refine below_set ?_ GE708.out) | exact HB.out)⟩⟩
 case rest =>
  clear HC3
  obtain ⟨kq, x5_2, rfl, HA, HJ2, BK707, BK708, HB⟩ := hcut
  cases kq with
  | zero => exact absurd HA.out (by simp [integer_Int_Cmp.j0])
  | succ kj2 =>
   have H := HA.out
   clear HA
   simp only [integer_Int_Cmp.j0] at H
   by_cases c12 : x5_2 = true
   ·subst c12
    have H1 : ((limb_Cmp.f kj2 l1_1 l0_1).bind fun t709 => (some t709)) = some r := by rw [if_pos rfl] at H; exact H
    clear H
    have H := H1
    clear H1
    replace H := Option.bind_eq_some_iff.mp H
    obtain ⟨t709, A130, H⟩ := H
    replace H : (some t709) = some r := H
    have A13 := Aside0.mk A130
    clear A130
    obtain rfl := Option.some.inj H
    have hnb14 := NB708_707.out
    have hnc14 := NB707_708.out
    have hcz15_0 : wc.cell? ⟨gb708, 0, none⟩ = some (.bool a1_0) := (blk_cell BK708.out 0).trans rfl
    have hcz15_1 : wc.cell? ⟨gb708, 1, none⟩ = some (.slice A1_1 l1_1.length c1_1) := (blk_cell BK708.out 1).trans rfl
    have hfz15_0 := blk_frozen BK708.out 0
    have hfz15_1 := blk_frozen BK708.out 1
    have hcz16_0 : wc.cell? ⟨gb707, 0, none⟩ = some (.bool a0_0) := (blk_cell BK707.out 0).trans rfl
    have hcz16_1 : wc.cell? ⟨gb707, 1, none⟩ = some (.slice A0_1 l0_1.length c0_1) := (blk_cell BK707.out 1).trans rfl
    have hfz16_0 := blk_frozen BK707.out 0
    have hfz16_1 := blk_frozen BK707.out 1
    go_wp2_with (first | ((with_reducible refine gate_callee (f := 54) rfl ?_); refine goesL_ (some 16) rfl rfl Tryd.func54 (by kernel_rfl) rfl #[.slice A1_1 l1_1.length c1_1, .slice A0_1 l0_1.length c0_1] rfl (by (try simp only [List.map_toArray, List.map_cons, List.map_nil]); first | done | rfl | (simp only [List.length_drop, List.length_take]; rfl)) ?_; (with_reducible refine (limb_Cmp.calls kj2 _ _ l1_1 _ _ l0_1 t709 _ ?side1 ?side2 ?side3 ?side4 A13.out).mono ?_); (case side1 => repeat (first | exact (Kd.C_below HR1_1.out HB.out) | (with_reducible refine Kd.C_alloc ?_ _) | (with_reducible refine Kd.C_drewN ?_ _) | (with_reducible refine Kd.C_drew ?_))); (case side2 => exact HC1_1.out); (case side3 => repeat (first | exact (Kd.C_below HR0_1.out HB.out) | (with_reducible refine Kd.C_alloc ?_ _) | (with_reducible refine Kd.C_drewN ?_ _) | (with_reducible refine Kd.C_drew ?_))); (case side4 => exact HC0_1.out); rintro e w17 ⟨rfl, hb⟩; refine ⟨_, rfl, ?_⟩; have n0_ := Aside0.mk (blk_below (g := gb707) (o := .cells #[.bool a0_0, .slice A0_1 l0_1.length c0_1] 39 (0, 0)) (lK BK707) hb); have n1_ := Aside0.mk (blk_below (g := gb708) (o := .cells #[.bool a1_0, .slice A1_1 l1_1.length c1_1] 39 (0, 0)) (lK BK708) hb); have n2_ := Aside0.mk (below_step (by repeat (first | (with_reducible first | exact HB.out | apply below_alloc | apply pw_below_drewN | apply below_drew1 | refine below_set ?_ GE707.out | refine below_set ?_ GE708.out) | exact HB.out)) hb); clear BK707; clear BK708; clear HB; have BK707 := n0_; have BK708 := n1_; have HB := n2_; clear n0_ n1_ n2_; (try clear hb); (try clear hb2); (try clear hk); (try clear hi)))
    go_ret
    exact ⟨by first | rfl | (simp [errW_none, errW_some] <;> rfl) | (simp [*, errW_none, errW_some] <;> rfl), by repeat (first | (with_reducible first | exact HB.out | apply below_alloc | apply pw_below_drewN | apply below_drew1 | refine below_set ?_ GE707.out | refine below_set ?_ GE708.out) | exact HB.out)⟩
   ·replace c12 := Bool.eq_false_iff.mpr c12
    subst c12
    have H1 : (if a0_0 = true then (some (-1)) else (if a1_0 = true then (some 1) else ((limb_Cmp.f kj2 l0_1 l1_1).bind fun t710 => (some t710)))) = some r := by rw [if_neg (show ¬ (false = true) by decide)] at H; exact H
    clear H
    have H := H1
    clear H1
    by_cases c18 : a0_0 = true
    ·subst c18
     have H1 : (some (-1)) = some r := by rw [if_pos rfl] at H; exact H
     clear H
     have H := H1
     clear H1
     obtain rfl := Option.some.inj H
     have hnb19 := NB707_708.out
     have hnc19 := NB708_707.out
     have hcz20_0 : wc.cell? ⟨gb707, 0, none⟩ = some (.bool true) := (blk_cell BK707.out 0).trans rfl
     have hcz20_1 : wc.cell? ⟨gb707, 1, none⟩ = some (.slice A0_1 l0_1.length c0_1) := (blk_cell BK707.out 1).trans rfl
     have hfz20_0 := blk_frozen BK707.out 0
     have hfz20_1 := blk_frozen BK707.out 1
     go_wp2
     go_ret
     exact ⟨by first | rfl | (simp [errW_none, errW_some] <;> rfl) | (simp [*, errW_none, errW_some] <;> rfl), by repeat (first | (with_reducible first | exact HB.out | apply below_alloc | apply pw_below_drewN | apply below_drew1 | refine below_set ?_ GE707.out | refine below_set ?_ GE708.out) | exact HB.out)⟩
    ·replace c18 := Bool.eq_false_iff.mpr c18
     subst c18
     have H1 : (if a1_0 = true then (some 1) else ((limb_Cmp.f kj2 l0_1 l1_1).bind fun t710 => (some t710))) = some r := by rw [if_neg (show ¬ (false = true) by decide)] at H; exact H
     clear H
     have H := H1
     clear H1
     by_cases c21 : a1_0 = true
     ·subst c21
      have H1 : (some 1) = some r := by rw [if_pos rfl] at H; exact H
      clear H
      have H := H1
      clear H1
      obtain rfl := Option.some.inj H
      have hnb22 := NB707_708.out
      have hnc22 := NB708_707.out
      have hcz23_0 : wc.cell? ⟨gb707, 0, none⟩ = some (.bool false) := (blk_cell BK707.out 0).trans rfl
      have hcz23_1 : wc.cell? ⟨gb707, 1, none⟩ = some (.slice A0_1 l0_1.length c0_1) := (blk_cell BK707.out 1).trans rfl
      have hfz23_0 := blk_frozen BK707.out 0
      have hfz23_1 := blk_frozen BK707.out 1
      have hcz24_0 : wc.cell? ⟨gb708, 0, none⟩ = some (.bool true) := (blk_cell BK708.out 0).trans rfl
      have hcz24_1 : wc.cell? ⟨gb708, 1, none⟩ = some (.slice A1_1 l1_1.length c1_1) := (blk_cell BK708.out 1).trans rfl
      have hfz24_0 := blk_frozen BK708.out 0
      have hfz24_1 := blk_frozen BK708.out 1
      go_wp2
      go_ret
      exact ⟨by first | rfl | (simp [errW_none, errW_some] <;> rfl) | (simp [*, errW_none, errW_some] <;> rfl), by repeat (first | (with_reducible first | exact HB.out | apply below_alloc | apply pw_below_drewN | apply below_drew1 | refine below_set ?_ GE707.out | refine below_set ?_ GE708.out) | exact HB.out)⟩
     ·replace c21 := Bool.eq_false_iff.mpr c21
      subst c21
      have H1 : ((limb_Cmp.f kj2 l0_1 l1_1).bind fun t710 => (some t710)) = some r := by rw [if_neg (show ¬ (false = true) by decide)] at H; exact H
      clear H
      have H := H1
      clear H1
      replace H := Option.bind_eq_some_iff.mp H
      obtain ⟨t710, A250, H⟩ := H
      replace H : (some t710) = some r := H
      have A25 := Aside0.mk A250
      clear A250
      obtain rfl := Option.some.inj H
      have hnb26 := NB707_708.out
      have hnc26 := NB708_707.out
      have hcz27_0 : wc.cell? ⟨gb707, 0, none⟩ = some (.bool false) := (blk_cell BK707.out 0).trans rfl
      have hcz27_1 : wc.cell? ⟨gb707, 1, none⟩ = some (.slice A0_1 l0_1.length c0_1) := (blk_cell BK707.out 1).trans rfl
      have hfz27_0 := blk_frozen BK707.out 0
      have hfz27_1 := blk_frozen BK707.out 1
      have hcz28_0 : wc.cell? ⟨gb708, 0, none⟩ = some (.bool false) := (blk_cell BK708.out 0).trans rfl
      have hcz28_1 : wc.cell? ⟨gb708, 1, none⟩ = some (.slice A1_1 l1_1.length c1_1) := (blk_cell BK708.out 1).trans rfl
      have hfz28_0 := blk_frozen BK708.out 0
      have hfz28_1 := blk_frozen BK708.out 1
      go_wp2_with (first | ((with_reducible refine gate_callee (f := 54) rfl ?_); refine goesL_ (some 27) rfl rfl Tryd.func54 (by kernel_rfl) rfl #[.slice A0_1 l0_1.length c0_1, .slice A1_1 l1_1.length c1_1] rfl (by (try simp only [List.map_toArray, List.map_cons, List.map_nil]); first | done | rfl | (simp only [List.length_drop, List.length_take]; rfl)) ?_; (with_reducible refine (limb_Cmp.calls kj2 _ _ l0_1 _ _ l1_1 t710 _ ?side1 ?side2 ?side3 ?side4 A25.out).mono ?_); (case side1 => repeat (first | exact (Kd.C_below HR0_1.out HB.out) | (with_reducible refine Kd.C_alloc ?_ _) | (with_reducible refine Kd.C_drewN ?_ _) | (with_reducible refine Kd.C_drew ?_))); (case side2 => exact HC0_1.out); (case side3 => repeat (first | exact (Kd.C_below HR1_1.out HB.out) | (with_reducible refine Kd.C_alloc ?_ _) | (with_reducible refine Kd.C_drewN ?_ _) | (with_reducible refine Kd.C_drew ?_))); (case side4 => exact HC1_1.out); rintro e w29 ⟨rfl, hb⟩; refine ⟨_, rfl, ?_⟩; have n0_ := Aside0.mk (blk_below (g := gb707) (o := .cells #[.bool false, .slice A0_1 l0_1.length c0_1] 39 (0, 0)) (lK BK707) hb); have n1_ := Aside0.mk (blk_below (g := gb708) (o := .cells #[.bool false, .slice A1_1 l1_1.length c1_1] 39 (0, 0)) (lK BK708) hb); have n2_ := Aside0.mk (below_step (by repeat (first | (with_reducible first | exact HB.out | apply below_alloc | apply pw_below_drewN | apply below_drew1 | refine below_set ?_ GE707.out | refine below_set ?_ GE708.out) | exact HB.out)) hb); clear BK707; clear BK708; clear HB; have BK707 := n0_; have BK708 := n1_; have HB := n2_; clear n0_ n1_ n2_; (try clear hb); (try clear hb2); (try clear hk); (try clear hi)))
      go_ret
      exact ⟨by first | rfl | (simp [errW_none, errW_some] <;> rfl) | (simp [*, errW_none, errW_some] <;> rfl), by repeat (first | (with_reducible first | exact HB.out | apply below_alloc | apply pw_below_drewN | apply below_drew1 | refine below_set ?_ GE707.out | refine below_set ?_ GE708.out) | exact HB.out)⟩

end Go.Proofs.YtakmkhokbcjapaaDoor.XA
end
