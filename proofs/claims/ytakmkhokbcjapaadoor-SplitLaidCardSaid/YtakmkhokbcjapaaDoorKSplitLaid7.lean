/- Part 7 of the proof of the law SplitLaid for every input: words, walks and plain laws. No condition. -/
import Derived.DataReads
import Derived.ChangeArms
import Derived.SizedLaws
import Derived.WideShapes
import Derived.ChangeSlices
import Derived.RowKit
import Derived.OpenShut
import Derived.Test.YtakmkhokbcjapaaDoorCards
import Derived.Test.YtakmkhokbcjapaaDoorTie
import Derived.Deep.DeepHandedRow
import Derived.Test.YtakmkhokbcjapaaDoorRows
import Derived.WalkKit
import Derived.ProofKit
import Derived.ShutString
import Derived.ChangeOld
import Derived.Below
import Derived.Test.YtakmkhokbcjapaaDoorKSplitLaid6
section
namespace Go.Proofs.YtakmkhokbcjapaaDoor.XA
open Go.Proofs.YtakmkhokbcjapaaDoor.Lift Go.RowKit Go.Proofs.YtakmkhokbcjapaaDoorW.PrintWords Go.Proofs.YtakmkhokbcjapaaDoorW.PrintLast Go.Proofs.YtakmkhokbcjapaaDoorW.PrintMore
attribute [local go_sem] max2_int min2_int max_two min_two max_three min_three max_four min_four   -- for this text's walks alone
set_option linter.unusedVariables false
set_option linter.unusedSimpArgs false

/-! ### swagelaw21_SplitLaid: function 9 -/
mutual
def swagelaw21_SplitLaid.j0 : Nat → List Int → List Int → Int → Int → Bool → Option (Bool)
 | 0, _, _, _, _, _ => none
 | k + 1, x0, x1, x2, x3, x36 => if x36 = true then (some true) else ((swagelaw21_list.f k x0).bind fun t795 => ((swagelaw21_list.f k x1).bind fun t798 => ((split_Block.f k (x0.length : Int) (x1.length : Int) x2 x3).bind fun bt801 => (if bt801.2 = 0 then (swagelaw21_SplitLaid.j1 k x2 x3 t795 t798 bt801.1 bt801.2 (decide (bt801.1 < 1))) else (swagelaw21_SplitLaid.j1 k x2 x3 t795 t798 bt801.1 bt801.2 true)))))
def swagelaw21_SplitLaid.j1 : Nat → Int → Int → List (S39) → List (S39) → Int → Int → Bool → Option (Bool)
 | 0, _, _, _, _, _, _, _ => none
 | k + 1, x2, x3, x9, x10, x11, x12, x56 => if x56 = true then (if x12 = 0 then (some true) else (if x2 < 1 then (some true) else (if x3 < 1 then (some true) else (if x2 > 8 then (some true) else (some (decide (x3 > 8))))))) else ((split_Parts.f k x9 x2 x11).bind fun bt803 => ((split_Parts.f k x10 x3 x11).bind fun bt807 => ((split_Join.f k bt803.1 x11 (x9.length : Int)).bind fun bt811 => (if bt803.2 = 0 then (if bt807.2 = 0 then (if bt811.2 = 0 then (if (bt803.1.length : Int) = x2 then (if (bt807.1.length : Int) = x3 then ((swagelaw21_alike.f k bt811.1 x9).bind fun t815 => (swagelaw21_SplitLaid.j2 k x2 x3 x9 x10 x11 bt803.1 bt807.1 (!t815))) else (swagelaw21_SplitLaid.j2 k x2 x3 x9 x10 x11 bt803.1 bt807.1 true)) else (swagelaw21_SplitLaid.j2 k x2 x3 x9 x10 x11 bt803.1 bt807.1 true)) else (swagelaw21_SplitLaid.j2 k x2 x3 x9 x10 x11 bt803.1 bt807.1 true)) else (swagelaw21_SplitLaid.j2 k x2 x3 x9 x10 x11 bt803.1 bt807.1 true)) else (swagelaw21_SplitLaid.j2 k x2 x3 x9 x10 x11 bt803.1 bt807.1 true)))))
def swagelaw21_SplitLaid.j2 : Nat → Int → Int → List (S39) → List (S39) → Int → List (List (S39)) → List (List (S39)) → Bool → Option (Bool)
 | 0, _, _, _, _, _, _, _, _ => none
 | k + 1, x2, x3, x9, x10, x11, x13, x15, x124 => if x124 = true then (some false) else (if 0 ≤ (wrap64 ((wrap64 (x2 + x3)) - 1)) then (if (wrap64 ((wrap64 (x2 + x3)) - 1) : Int).toNat ≤ 11728124029610 then (swagelaw21_SplitLaid.l0 k x9 x10 x11 x13 x15 (List.replicate (wrap64 ((wrap64 (x2 + x3)) - 1) : Int).toNat []) (x13.length : Int) 0) else (none)) else (none))
def swagelaw21_SplitLaid.l0 : Nat → List (S39) → List (S39) → Int → List (List (S39)) → List (List (S39)) → List (List (S39)) → Int → Int → Option (Bool)
 | 0, _, _, _, _, _, _, _, _ => none
 | k + 1, x9, x10, x11, x13, x15, x19, x131, x132 => if x132 < x131 then (swagelaw21_SplitLaid.l1 k x9 x10 x11 x13 x15 x19 x132 x131 x132 (x15.length : Int) 0) else ((poly_Mul.f k x9 x10).bind fun bt819 => ((split_Join.f k x19 x11 (bt819.1.length : Int)).bind fun bt823 => (if bt823.2 = 0 then ((swagelaw21_alike.f k bt823.1 bt819.1).bind fun t827 => (some t827)) else (some false))))
def swagelaw21_SplitLaid.l1 : Nat → List (S39) → List (S39) → Int → List (List (S39)) → List (List (S39)) → List (List (S39)) → Int → Int → Int → Int → Int → Option (Bool)
 | 0, _, _, _, _, _, _, _, _, _, _, _ => none
 | k + 1, x9, x10, x11, x13, x15, x19, x20, x131, x132, x136, x137 => if x137 < x136 then (if 0 ≤ x20 then (if x20 < (x13.length : Int) then (if 0 ≤ x137 then (if x137 < (x15.length : Int) then ((poly_Mul.f k (rd_L5 x13 x20) (rd_L5 x15 x137)).bind fun bt830 => (if 0 ≤ (wrap64 (x20 + x137)) then (if (wrap64 (x20 + x137)) < (x19.length : Int) then ((poly_Add.f k (rd_L5 x19 (wrap64 (x20 + x137))) bt830.1).bind fun t835 => (swagelaw21_SplitLaid.l1 k x9 x10 x11 x13 x15 (x19.set ((wrap64 (x20 + x137)) : Int).toNat t835) x20 x131 x132 x136 (wrap64 (x137 + 1)))) else (none)) else (none))) else (none)) else (none)) else (none)) else (none)) else (swagelaw21_SplitLaid.l0 k x9 x10 x11 x13 x15 x19 x131 (wrap64 (x132 + 1)))
end
def swagelaw21_SplitLaid.f (k : Nat) (l0 : List Int) (l1 : List Int) (a2 : Int) (a3 : Int) : Option (Bool) := (swagelaw21_works.f k).bind fun t794 => (if t794 = true then (if (l0.length : Int) > 60 then (swagelaw21_SplitLaid.j0 k l0 l1 a2 a3 true) else (swagelaw21_SplitLaid.j0 k l0 l1 a2 a3 (decide (60 < l1.length)))) else (some false))
def swagelaw21_SplitLaid.T21 : Bool × List (List Nat × List Nat) := (true, [([], []), ([], []), ([0, 1], [0, 1]), ([2], [2]), ([], []), ([], []), ([4, 5], [4, 5]), ([6], [6]), ([3, 7], [3, 7]), ([8], [8]), ([9], [9]), ([9], [9]), ([10, 8, 0, 1, 2, 3, 4, 5, 6, 7, 8, 9, 10], [10]), ([11, 12, 0, 1, 2, 3, 4, 5, 6, 7, 8, 9, 10, 11, 12], [11])])
def swagelaw21_SplitLaid.B21 : List Nat := [0, 0, 3, 7, 0, 0, 48, 112, 255, 511, 1023, 1023, 2047, 8191]
theorem swagelaw21_SplitLaid.tab21 : rtab .any (opsOf Tryd.f9 21) = swagelaw21_SplitLaid.T21 := by kernel_rfl
theorem swagelaw21_SplitLaid.bits21 : waitsOk swagelaw21_SplitLaid.T21.2 swagelaw21_SplitLaid.B21 = true := by kernel_rfl
set_option maxHeartbeats 8000000 in
set_option maxRecDepth 100000 in
theorem swagelaw21_SplitLaid.calls (k : Nat) (A0 : Option Addr) (c0 : Nat) (l0 : List Int) (A1 : Option Addr) (c1 : Nat) (l1 : List Int) (a2 : Int) (a3 : Int) (r : Bool) (w : World) (hr0 : Kd.C (Kd.int .i64) w A0 l0.length l0) (hc0 : l0.length ≤ c0) (hr1 : Kd.C (Kd.int .i64) w A1 l1.length l1) (hc1 : l1.length ≤ c1) (hT : Aside0 (r = true)) (h : swagelaw21_SplitLaid.f k l0 l1 a2 a3 = some r) :
  Calls Tryd.prog 9 #[.slice A0 l0.length c0, .slice A1 l1.length c1, .int .i64 a2, .int .i64 a3] w fun e w' => e = .returned (.bool r) ∧ Below w.heap.size w w' := by
 have HR0 := Aside0.mk hr0
 have HC0 := Aside0.mk hc0
 clear hr0 hc0
 have HR1 := Aside0.mk hr1
 have HC1 := Aside0.mk hc1
 clear hr1 hc1
 have HB := Aside0.mk (Below.refl w.heap.size w)
 have H : ((swagelaw21_works.f k).bind fun t794 => (if t794 = true then (if (l0.length : Int) > 60 then (swagelaw21_SplitLaid.j0 k l0 l1 a2 a3 true) else (swagelaw21_SplitLaid.j0 k l0 l1 a2 a3 (decide (60 < l1.length)))) else (some false))) = some r := h
 clear h
 replace H := Option.bind_eq_some_iff.mp H
 obtain ⟨t794, A50, H⟩ := H
 replace H : (if t794 = true then (if (l0.length : Int) > 60 then (swagelaw21_SplitLaid.j0 k l0 l1 a2 a3 true) else (swagelaw21_SplitLaid.j0 k l0 l1 a2 a3 (decide (60 < l1.length)))) else (some false)) = some r := H
 have A5 := Aside0.mk A50
 clear A50
 by_cases c6 : t794 = true
 ·subst c6
  have H1 : (if (l0.length : Int) > 60 then (swagelaw21_SplitLaid.j0 k l0 l1 a2 a3 true) else (swagelaw21_SplitLaid.j0 k l0 l1 a2 a3 (decide (60 < l1.length)))) = some r := by rw [if_pos rfl] at H; exact H
  clear H
  have H := H1
  clear H1
  have HC7 := Aside0.mk H
  clear H
  go_enter Tryd.func9, Tryd.ntmps9
  go_upto_region 3 with (first | ((with_reducible refine gate_callee (f := 10) rfl ?_); refine goesL_ (some 27) rfl rfl Tryd.func10 (by kernel_rfl) rfl #[] rfl (by (try simp only [List.map_toArray, List.map_cons, List.map_nil]); first | done | rfl | (simp only [List.length_drop, List.length_take]; rfl)) ?_; (with_reducible refine (swagelaw21_works.calls k  true _ A5.out).mono ?_); rintro e w8 ⟨rfl, hb⟩; refine ⟨_, rfl, ?_⟩; have n0_ := Aside0.mk (below_step (lB HB) hb); clear HB; have HB := n0_; clear n0_; (try clear hb); (try clear hb2); (try clear hk); (try clear hi)))
  (try simp only [Act.put, List.setIfInBounds_toArray, List.set_cons_zero, List.set_cons_succ])
  go_cut [36] (fun v36 wc => ∃ (kq : Nat) (x36_6 : Bool), v36 = .bool x36_6 ∧ Aside0 (swagelaw21_SplitLaid.j0 kq l0 l1 a2 a3 x36_6 = some r) ∧ Aside0 (kq ≤ k) ∧ Aside0 (Below w.heap.size w wc))
  case first =>
   have H := HC7.out
   clear HC7
   by_cases c9 : (l0.length : Int) > 60
   ·rw [if_pos c9] at H
    have c9b0 : decide (60 < (l0.length : Int)) = true := decide_eq_true c9
    have c9b1 : decide (60 < l0.length) = true := decide_eq_true (by omega)
    clear c9
    (first | rw [c9b0] | (simp only [i64_w, i32_w]; rw [c9b0]) | skip)
    have H' := Aside0.mk H
    clear H
    go_wp2
    go_meet
    case rel => exact ⟨_, (true), (by first | rfl | (simp; done) | (simp [*]; done)), H', ⟨by first | omega | exact Nat.le_refl _⟩, ⟨by repeat (first | (with_reducible first | exact HB.out | apply below_alloc | apply pw_below_drewN | apply below_drew1) | exact HB.out)⟩⟩
   ·rw [if_neg c9] at H
    have c9b0 : decide (60 < (l0.length : Int)) = false := decide_eq_false c9
    have c9b1 : decide (60 < l0.length) = false := decide_eq_false (by omega)
    clear c9
    (first | rw [c9b0] | (simp only [i64_w, i32_w]; rw [c9b0]) | skip)
    have H' := Aside0.mk H
    clear H
    go_wp2
    go_meet
    case rel => exact ⟨_, (decide (60 < l1.length)), (by first | rfl | (simp; done) | (simp [*]; done) | (simp; omega)), H', ⟨by first | omega | exact Nat.le_refl _⟩, ⟨by repeat (first | (with_reducible first | exact HB.out | apply below_alloc | apply pw_below_drewN | apply below_drew1) | exact HB.out)⟩⟩
  case rest =>
   clear HC7
   try clear c1
   try clear c6
   obtain ⟨kq, x36_6, rfl, HA, HJ6, HB⟩ := hcut
   cases kq with
   | zero => exact absurd HA.out (by simp [swagelaw21_SplitLaid.j0])
   | succ kj6 =>
    have H := HA.out
    clear HA
    simp only [swagelaw21_SplitLaid.j0] at H
    by_cases c10 : x36_6 = true
    ·subst c10
     have H1 : (some true) = some r := by rw [if_pos rfl] at H; exact H
     clear H
     have H := H1
     clear H1
     obtain rfl := Option.some.inj H
     go_wp2
     go_ret
     exact ⟨by first | rfl | (simp [errW_none, errW_some] <;> rfl) | (simp [*, errW_none, errW_some] <;> rfl), by repeat (first | (with_reducible first | exact HB.out | apply below_alloc | apply pw_below_drewN | apply below_drew1) | exact HB.out)⟩
    ·replace c10 := Bool.eq_false_iff.mpr c10
     subst c10
     have H1 : ((swagelaw21_list.f kj6 l0).bind fun t795 => ((swagelaw21_list.f kj6 l1).bind fun t798 => ((split_Block.f kj6 (l0.length : Int) (l1.length : Int) a2 a3).bind fun bt801 => (if bt801.2 = 0 then (swagelaw21_SplitLaid.j1 kj6 a2 a3 t795 t798 bt801.1 bt801.2 (decide (bt801.1 < 1))) else (swagelaw21_SplitLaid.j1 kj6 a2 a3 t795 t798 bt801.1 bt801.2 true))))) = some r := by rw [if_neg (show ¬ (false = true) by decide)] at H; exact H
     clear H
     have H := H1
     clear H1
     replace H := Option.bind_eq_some_iff.mp H
     obtain ⟨t795, A110, H⟩ := H
     replace H : ((swagelaw21_list.f kj6 l1).bind fun t798 => ((split_Block.f kj6 (l0.length : Int) (l1.length : Int) a2 a3).bind fun bt801 => (if bt801.2 = 0 then (swagelaw21_SplitLaid.j1 kj6 a2 a3 t795 t798 bt801.1 bt801.2 (decide (bt801.1 < 1))) else (swagelaw21_SplitLaid.j1 kj6 a2 a3 t795 t798 bt801.1 bt801.2 true)))) = some r := H
     have A11 := Aside0.mk A110
     clear A110
     replace H := Option.bind_eq_some_iff.mp H
     obtain ⟨t798, A120, H⟩ := H
     replace H : ((split_Block.f kj6 (l0.length : Int) (l1.length : Int) a2 a3).bind fun bt801 => (if bt801.2 = 0 then (swagelaw21_SplitLaid.j1 kj6 a2 a3 t795 t798 bt801.1 bt801.2 (decide (bt801.1 < 1))) else (swagelaw21_SplitLaid.j1 kj6 a2 a3 t795 t798 bt801.1 bt801.2 true))) = some r := H
     have A12 := Aside0.mk A120
     clear A120
     replace H := Option.bind_eq_some_iff.mp H
     obtain ⟨⟨t801, t802⟩, A130, H⟩ := H
     replace H : (if t802 = 0 then (swagelaw21_SplitLaid.j1 kj6 a2 a3 t795 t798 t801 t802 (decide (t801 < 1))) else (swagelaw21_SplitLaid.j1 kj6 a2 a3 t795 t798 t801 t802 true)) = some r := H
     have A13 := Aside0.mk A130
     clear A130
     have HC14 := Aside0.mk H
     clear H
     go_upto_region 7 with (first | ((with_reducible refine gate_callee (f := 11) rfl ?_); refine goesL_ (some 38) rfl rfl Tryd.func11 (by kernel_rfl) rfl #[.slice A0 l0.length c0] rfl (by (try simp only [List.map_toArray, List.map_cons, List.map_nil]); first | done | rfl | (simp only [List.length_drop, List.length_take]; rfl)) ?_; (with_reducible refine (swagelaw21_list.calls kj6 _ _ l0 t795 _ ?side1 ?side2 A11.out).mono ?_); (case side1 => repeat (first | exact (Kd.C_below HR0.out HB.out) | (with_reducible refine Kd.C_alloc ?_ _) | (with_reducible refine Kd.C_drewN ?_ _) | (with_reducible refine Kd.C_drew ?_))); (case side2 => exact HC0.out); rintro e w15 ⟨v796, rfl, ho0, hb⟩; refine ⟨_, rfl, ?_⟩; have n0_ := Aside0.mk (Kd.N_lower (Kd.N_mono (ok' := fun k_ => True) ho0 (fun k_ hk_ => trivial)) (below_size (lB HB))); have n1_ := Aside0.mk (below_step (lB HB) hb); clear HB; have HO797 := n0_; have HB := n1_; clear n0_ n1_; (try clear hb); (try clear hb2); (try clear hk); (try clear hi); (try clear ho0)) | ((with_reducible refine gate_callee (f := 11) rfl ?_); refine goesL_ (some 40) rfl rfl Tryd.func11 (by kernel_rfl) rfl #[.slice A1 l1.length c1] rfl (by (try simp only [List.map_toArray, List.map_cons, List.map_nil]); first | done | rfl | (simp only [List.length_drop, List.length_take]; rfl)) ?_; (with_reducible refine (swagelaw21_list.calls kj6 _ _ l1 t798 _ ?side1 ?side2 A12.out).mono ?_); (case side1 => repeat (first | exact (Kd.C_below HR1.out HB.out) | (with_reducible refine Kd.C_alloc ?_ _) | (with_reducible refine Kd.C_drewN ?_ _) | (with_reducible refine Kd.C_drew ?_))); (case side2 => exact HC1.out); rintro e w16 ⟨v799, rfl, ho0, hb⟩; refine ⟨_, rfl, ?_⟩; have n0_ := Aside0.mk (Kd.N_elder' (lN HO797) (Kd.N_base ho0) hb); have n1_ := Aside0.mk (Kd.N_lower (Kd.N_mono (ok' := fun k_ => some k_ ≠ (v796 : Value).ownBlock) ho0 (fun k_ hk_ => (Kd.fresh' (Kd.N_lt (lN HO797)) k_ hk_))) (below_size (lB HB))); have n2_ := Aside0.mk (below_step (lB HB) hb); clear HO797 HB; have HO797 := n0_; have HO800 := n1_; have HB := n2_; clear n0_ n1_ n2_; (try clear hb); (try clear hb2); (try clear hk); (try clear hi); (try clear ho0)) | ((with_reducible refine gate_callee (f := 20) rfl ?_); refine goesL_ (some 48) rfl rfl Tryd.func20 (by kernel_rfl) rfl #[.int .i64 (l0.length : Int), .int .i64 (l1.length : Int), .int .i64 a2, .int .i64 a3] rfl (by (try simp only [List.map_toArray, List.map_cons, List.map_nil]); first | done | rfl | (simp only [List.length_drop, List.length_take]; rfl)) ?_; (with_reducible refine (split_Block.calls kj6 (l0.length : Int) (l1.length : Int) a2 a3 t801 t802 _ A13.out).mono ?_); rintro e w17 ⟨rfl, hb⟩; refine ⟨_, rfl, ?_⟩; have n0_ := Aside0.mk (Kd.N_below (lN HO797) hb); have n1_ := Aside0.mk (Kd.N_below (lN HO800) hb); have n2_ := Aside0.mk (below_step (lB HB) hb); clear HO797 HO800 HB; have HO797 := n0_; have HO800 := n1_; have HB := n2_; clear n0_ n1_ n2_; (try clear hb); (try clear hb2); (try clear hk); (try clear hi)))
     (try simp only [Act.put, List.setIfInBounds_toArray, List.set_cons_zero, List.set_cons_succ])
     go_cut [56] (fun v56 wc => ∃ (kq : Nat) (x56_13 : Bool), v56 = .bool x56_13 ∧ Aside0 (swagelaw21_SplitLaid.j1 kq a2 a3 t795 t798 t801 t802 x56_13 = some r) ∧ Aside0 (kq ≤ kj6) ∧ Aside0 (Kd.N k39 39 wc w.heap.size (fun k_ => some k_ ≠ (v799 : Value).ownBlock) v796 t795) ∧ Aside0 (Kd.N k39 39 wc w.heap.size (fun k_ => some k_ ≠ (v796 : Value).ownBlock) v799 t798) ∧ Aside0 (Below w.heap.size w wc))
     case first =>
      have H := HC14.out
      clear HC14
      by_cases c18 : t802 = 0
      ·rw [if_pos c18] at H
       have c18b0 : (t802 == 0) = true := beq_iff_eq.mpr c18
       have c18b1 : (t802 != 0) = false := bne_eq_false_iff_eq.mpr c18
       clear c18
       (first | rw [c18b0] | (simp only [i64_w, i32_w]; rw [c18b0]) | skip)
       have H' := Aside0.mk H
       clear H
       go_wp2
       go_meet
       case rel => exact ⟨_, (decide (t801 < 1)), (by first | rfl | (simp; done) | (simp [*]; done) | (simp; omega)), H', ⟨by have := HJ6.out; first | omega | exact Nat.le_refl _⟩, ⟨by (with_reducible repeat (first | apply Kd.N_alloc | apply Kd.N_drewN | apply Kd.N_drew)); exact Kd.N_mono HO797.out (fun _ hk => hk.2)⟩, ⟨by (with_reducible repeat (first | apply Kd.N_alloc | apply Kd.N_drewN | apply Kd.N_drew)); exact HO800.out⟩, ⟨by repeat (first | (with_reducible first | exact HB.out | apply below_alloc | apply pw_below_drewN | apply below_drew1) | exact HB.out)⟩⟩
      ·rw [if_neg c18] at H
       have c18b0 : (t802 == 0) = false := beq_eq_false_iff_ne.mpr c18
       have c18b1 : (t802 != 0) = true := bne_iff_ne.mpr c18
       (first | rw [c18b0] | (simp only [i64_w, i32_w]; rw [c18b0]) | skip)
       have H' := Aside0.mk H
       clear H
       go_wp2
       go_meet
       case rel => exact ⟨_, (true), (by first | rfl | (simp; done) | (simp [*]; done)), H', ⟨by have := HJ6.out; first | omega | exact Nat.le_refl _⟩, ⟨by (with_reducible repeat (first | apply Kd.N_alloc | apply Kd.N_drewN | apply Kd.N_drew)); exact Kd.N_mono HO797.out (fun _ hk => hk.2)⟩, ⟨by (with_reducible repeat (first | apply Kd.N_alloc | apply Kd.N_drewN | apply Kd.N_drew)); exact HO800.out⟩, ⟨by repeat (first | (with_reducible first | exact HB.out | apply below_alloc | apply pw_below_drewN | apply below_drew1) | exact HB.out)⟩⟩
     case rest =>
      clear HC14
      try clear c1
      try clear c6
      try clear c10
      obtain ⟨kq, x56_13, rfl, HA, HJ13, HO_9, HO_10, HB⟩ := hcut
      cases kq with
      | zero => exact absurd HA.out (by simp [swagelaw21_SplitLaid.j1])
      | succ kj13 =>
       have H := HA.out
       clear HA
       simp only [swagelaw21_SplitLaid.j1] at H
       by_cases c19 : x56_13 = true
       ·subst c19
        have H1 : (if t802 = 0 then (some true) else (if a2 < 1 then (some true) else (if a3 < 1 then (some true) else (if a2 > 8 then (some true) else (some (decide (a3 > 8))))))) = some r := by rw [if_pos rfl] at H; exact H
        clear H
        have H := H1
        clear H1
        by_cases c20 : t802 = 0
        ·rw [if_pos c20] at H
         have c20b0 : (t802 == 0) = true := beq_iff_eq.mpr c20
         have c20b1 : (t802 != 0) = false := bne_eq_false_iff_eq.mpr c20
         clear c20
         obtain rfl := Option.some.inj H
         go_wp2
         go_ret
         exact ⟨by first | rfl | (simp [errW_none, errW_some] <;> rfl) | (simp [*, errW_none, errW_some] <;> rfl), by repeat (first | (with_reducible first | exact HB.out | apply below_alloc | apply pw_below_drewN | apply below_drew1) | exact HB.out)⟩
        ·rw [if_neg c20] at H
         have c20b0 : (t802 == 0) = false := beq_eq_false_iff_ne.mpr c20
         have c20b1 : (t802 != 0) = true := bne_iff_ne.mpr c20
         by_cases c21 : a2 < 1
         ·rw [if_pos c21] at H
          have c21b0 : decide (a2 < 1) = true := decide_eq_true c21
          clear c21
          obtain rfl := Option.some.inj H
          go_wp2
          go_ret
          exact ⟨by first | rfl | (simp [errW_none, errW_some] <;> rfl) | (simp [*, errW_none, errW_some] <;> rfl), by repeat (first | (with_reducible first | exact HB.out | apply below_alloc | apply pw_below_drewN | apply below_drew1) | exact HB.out)⟩
         ·rw [if_neg c21] at H
          have c21b0 : decide (a2 < 1) = false := decide_eq_false c21
          clear c21
          by_cases c22 : a3 < 1
          ·rw [if_pos c22] at H
           have c22b0 : decide (a3 < 1) = true := decide_eq_true c22
           clear c22
           obtain rfl := Option.some.inj H
           go_wp2
           go_ret
           exact ⟨by first | rfl | (simp [errW_none, errW_some] <;> rfl) | (simp [*, errW_none, errW_some] <;> rfl), by repeat (first | (with_reducible first | exact HB.out | apply below_alloc | apply pw_below_drewN | apply below_drew1) | exact HB.out)⟩
          ·rw [if_neg c22] at H
           have c22b0 : decide (a3 < 1) = false := decide_eq_false c22
           clear c22
           by_cases c23 : a2 > 8
           ·rw [if_pos c23] at H
            have c23b0 : decide (8 < a2) = true := decide_eq_true c23
            clear c23
            obtain rfl := Option.some.inj H
            go_wp2
            go_ret
            exact ⟨by first | rfl | (simp [errW_none, errW_some] <;> rfl) | (simp [*, errW_none, errW_some] <;> rfl), by repeat (first | (with_reducible first | exact HB.out | apply below_alloc | apply pw_below_drewN | apply below_drew1) | exact HB.out)⟩
           ·rw [if_neg c23] at H
            have c23b0 : decide (8 < a2) = false := decide_eq_false c23
            clear c23
            obtain rfl := Option.some.inj H
            go_wp2
            go_ret
            exact ⟨by first | rfl | (simp [errW_none, errW_some] <;> rfl) | (simp [*, errW_none, errW_some] <;> rfl), by repeat (first | (with_reducible first | exact HB.out | apply below_alloc | apply pw_below_drewN | apply below_drew1) | exact HB.out)⟩
       ·replace c19 := Bool.eq_false_iff.mpr c19
        subst c19
        have H1 : ((split_Parts.f kj13 t795 a2 t801).bind fun bt803 => ((split_Parts.f kj13 t798 a3 t801).bind fun bt807 => ((split_Join.f kj13 bt803.1 t801 (t795.length : Int)).bind fun bt811 => (if bt803.2 = 0 then (if bt807.2 = 0 then (if bt811.2 = 0 then (if (bt803.1.length : Int) = a2 then (if (bt807.1.length : Int) = a3 then ((swagelaw21_alike.f kj13 bt811.1 t795).bind fun t815 => (swagelaw21_SplitLaid.j2 kj13 a2 a3 t795 t798 t801 bt803.1 bt807.1 (!t815))) else (swagelaw21_SplitLaid.j2 kj13 a2 a3 t795 t798 t801 bt803.1 bt807.1 true)) else (swagelaw21_SplitLaid.j2 kj13 a2 a3 t795 t798 t801 bt803.1 bt807.1 true)) else (swagelaw21_SplitLaid.j2 kj13 a2 a3 t795 t798 t801 bt803.1 bt807.1 true)) else (swagelaw21_SplitLaid.j2 kj13 a2 a3 t795 t798 t801 bt803.1 bt807.1 true)) else (swagelaw21_SplitLaid.j2 kj13 a2 a3 t795 t798 t801 bt803.1 bt807.1 true))))) = some r := by rw [if_neg (show ¬ (false = true) by decide)] at H; exact H
        clear H
        have H := H1
        clear H1
        replace H := Option.bind_eq_some_iff.mp H
        obtain ⟨⟨t803, t806⟩, A240, H⟩ := H
        replace H : ((split_Parts.f kj13 t798 a3 t801).bind fun bt807 => ((split_Join.f kj13 t803 t801 (t795.length : Int)).bind fun bt811 => (if t806 = 0 then (if bt807.2 = 0 then (if bt811.2 = 0 then (if (t803.length : Int) = a2 then (if (bt807.1.length : Int) = a3 then ((swagelaw21_alike.f kj13 bt811.1 t795).bind fun t815 => (swagelaw21_SplitLaid.j2 kj13 a2 a3 t795 t798 t801 t803 bt807.1 (!t815))) else (swagelaw21_SplitLaid.j2 kj13 a2 a3 t795 t798 t801 t803 bt807.1 true)) else (swagelaw21_SplitLaid.j2 kj13 a2 a3 t795 t798 t801 t803 bt807.1 true)) else (swagelaw21_SplitLaid.j2 kj13 a2 a3 t795 t798 t801 t803 bt807.1 true)) else (swagelaw21_SplitLaid.j2 kj13 a2 a3 t795 t798 t801 t803 bt807.1 true)) else (swagelaw21_SplitLaid.j2 kj13 a2 a3 t795 t798 t801 t803 bt807.1 true)))) = some r := H
        have A24 := Aside0.mk A240
        clear A240
        replace H := Option.bind_eq_some_iff.mp H
        obtain ⟨⟨t807, t810⟩, A250, H⟩ := H
        replace H : ((split_Join.f kj13 t803 t801 (t795.length : Int)).bind fun bt811 => (if t806 = 0 then (if t810 = 0 then (if bt811.2 = 0 then (if (t803.length : Int) = a2 then (if (t807.length : Int) = a3 then ((swagelaw21_alike.f kj13 bt811.1 t795).bind fun t815 => (swagelaw21_SplitLaid.j2 kj13 a2 a3 t795 t798 t801 t803 t807 (!t815))) else (swagelaw21_SplitLaid.j2 kj13 a2 a3 t795 t798 t801 t803 t807 true)) else (swagelaw21_SplitLaid.j2 kj13 a2 a3 t795 t798 t801 t803 t807 true)) else (swagelaw21_SplitLaid.j2 kj13 a2 a3 t795 t798 t801 t803 t807 true)) else (swagelaw21_SplitLaid.j2 kj13 a2 a3 t795 t798 t801 t803 t807 true)) else (swagelaw21_SplitLaid.j2 kj13 a2 a3 t795 t798 t801 t803 t807 true))) = some r := H
        have A25 := Aside0.mk A250
        clear A250
        replace H := Option.bind_eq_some_iff.mp H
        obtain ⟨⟨t811, t814⟩, A260, H⟩ := H
        replace H : (if t806 = 0 then (if t810 = 0 then (if t814 = 0 then (if (t803.length : Int) = a2 then (if (t807.length : Int) = a3 then ((swagelaw21_alike.f kj13 t811 t795).bind fun t815 => (swagelaw21_SplitLaid.j2 kj13 a2 a3 t795 t798 t801 t803 t807 (!t815))) else (swagelaw21_SplitLaid.j2 kj13 a2 a3 t795 t798 t801 t803 t807 true)) else (swagelaw21_SplitLaid.j2 kj13 a2 a3 t795 t798 t801 t803 t807 true)) else (swagelaw21_SplitLaid.j2 kj13 a2 a3 t795 t798 t801 t803 t807 true)) else (swagelaw21_SplitLaid.j2 kj13 a2 a3 t795 t798 t801 t803 t807 true)) else (swagelaw21_SplitLaid.j2 kj13 a2 a3 t795 t798 t801 t803 t807 true)) = some r := H
        have A26 := Aside0.mk A260
        clear A260
        have HC27 := Aside0.mk H
        clear H
        obtain ⟨Ao28, co28, eo28⟩ := Kd.N_slice HO_9.out
        subst eo28
        go_upto_region 12 with (first | ((with_reducible refine gate_callee (f := 12) rfl ?_); refine goesL_ (some 79) rfl rfl Tryd.func12 (by kernel_rfl) rfl #[.slice Ao28 t795.length co28, .int .i64 a2, .int .i64 t801] rfl (by (try simp only [List.map_toArray, List.map_cons, List.map_nil]); first | done | rfl | (simp only [List.length_drop, List.length_take]; rfl)) ?_; (with_reducible refine (split_Parts.calls kj13 (fun k_ => some k_ ≠ (v799 : Value).ownBlock) _ _ t795 a2 t801 t803 t806 _ ?side1 A24.out).mono ?_); (case side1 => exact Kd.N_V (HO_9.out)); rintro e w29 ⟨v804, rfl, ho0, hb⟩; refine ⟨_, rfl, ?_⟩; have n0_ := Aside0.mk (Kd.N_elder' (lN HO_9) (Kd.N_base ho0) hb); have n1_ := Aside0.mk (Kd.N_elder' (lN HO_10) (Kd.N_base ho0) hb); have n2_ := Aside0.mk (Kd.N_lower (Kd.N_mono (ok' := fun k_ => some k_ ≠ (v799 : Value).ownBlock) ho0 (fun k_ hk_ => Or.elim hk_ (fun hs_ => hs_) (fun hn_ => (Kd.fresh' (Kd.N_lt (lN HO_10)) k_ hn_)))) (below_size (lB HB))); have n3_ := Aside0.mk (below_step (lB HB) hb); clear HO_9 HO_10 HB; have HO_9 := n0_; have HO_10 := n1_; have HO805 := n2_; have HB := n3_; clear n0_ n1_ n2_ n3_; (try clear hb); (try clear hb2); (try clear hk); (try clear hi); (try clear ho0); obtain ⟨Ao30, co30, eo30⟩ := Kd.N_slice HO_10.out; subst eo30) | ((with_reducible refine gate_callee (f := 12) rfl ?_); refine goesL_ (some 86) rfl rfl Tryd.func12 (by kernel_rfl) rfl #[.slice Ao30 t798.length co30, .int .i64 a3, .int .i64 t801] rfl (by (try simp only [List.map_toArray, List.map_cons, List.map_nil]); first | done | rfl | (simp only [List.length_drop, List.length_take]; rfl)) ?_; (with_reducible refine (split_Parts.calls kj13 (fun k_ => (some k_ ≠ (.slice Ao28 t795.length co28 : Value).ownBlock ∧ some k_ ≠ (v804 : Value).ownBlock)) _ _ t798 a3 t801 t807 t810 _ ?side1 A25.out).mono ?_); (case side1 => exact Kd.N_V (HO_10.out)); rintro e w31 ⟨v808, rfl, ho0, hb⟩; refine ⟨_, rfl, ?_⟩; have n0_ := Aside0.mk (Kd.N_elder' (lN HO_9) (Kd.N_base ho0) hb); have n1_ := Aside0.mk (Kd.N_elder' (lN HO_10) (Kd.N_base ho0) hb); have n2_ := Aside0.mk (Kd.N_elder' (lN HO805) (Kd.N_base ho0) hb); have n3_ := Aside0.mk (Kd.N_lower (Kd.N_mono (ok' := fun k_ => some k_ ≠ (.slice Ao28 t795.length co28 : Value).ownBlock ∧ some k_ ≠ (v804 : Value).ownBlock) ho0 (fun k_ hk_ => ⟨Or.elim hk_ (fun hs_ => hs_.1) (fun hn_ => (Kd.fresh' (Kd.N_lt (lN HO_9)) k_ hn_)), Or.elim hk_ (fun hs_ => hs_.2) (fun hn_ => (Kd.fresh' (Kd.N_lt (lN HO805)) k_ hn_))⟩)) (below_size (lB HB))); have n4_ := Aside0.mk (below_step (lB HB) hb); clear HO_9 HO_10 HO805 HB; have HO_9 := n0_; have HO_10 := n1_; have HO805 := n2_; have HO809 := n3_; have HB := n4_; clear n0_ n1_ n2_ n3_ n4_; (try clear hb); (try clear hb2); (try clear hk); (try clear hi); (try clear ho0); obtain ⟨Ao32, co32, eo32⟩ := Kd.N_slice HO805.out; subst eo32) | ((with_reducible refine gate_callee (f := 18) rfl ?_); refine goesL_ (some 94) rfl rfl Tryd.func18 (by kernel_rfl) rfl #[.slice Ao32 t803.length co32, .int .i64 t801, .int .i64 (t795.length : Int)] rfl (by (try simp only [List.map_toArray, List.map_cons, List.map_nil]); first | done | rfl | (simp only [List.length_drop, List.length_take]; rfl)) ?_; (with_reducible refine (split_Join.calls kj13 _ _ t803 t801 (t795.length : Int) t811 t814 _ ?side1 ?side2 A26.out).mono ?_); (case side1 => repeat (first | exact (Kd.N_reads' HO805.out).2.2 | (with_reducible refine Kd.C_alloc ?_ _) | (with_reducible refine Kd.C_drewN ?_ _) | (with_reducible refine Kd.C_drew ?_))); (case side2 => exact (Kd.N_reads' HO805.out).2.1); rintro e w33 ⟨v812, rfl, ho0, hb⟩; refine ⟨_, rfl, ?_⟩; have n0_ := Aside0.mk (Kd.N_below (lN HO_9) hb); have n1_ := Aside0.mk (Kd.N_below (lN HO_10) hb); have n2_ := Aside0.mk (Kd.N_below (lN HO805) hb); have n3_ := Aside0.mk (Kd.N_below (lN HO809) hb); have n4_ := Aside0.mk (Kd.V_lower (Kd.V_mono (ok' := fun k_ => some k_ ≠ (.slice Ao28 t795.length co28 : Value).ownBlock ∧ some k_ ≠ (.slice Ao30 t798.length co30 : Value).ownBlock ∧ some k_ ≠ (.slice Ao32 t803.length co32 : Value).ownBlock ∧ some k_ ≠ (v808 : Value).ownBlock) ho0 (fun k_ hk_ => ⟨(Kd.fresh' (Kd.N_lt (lN HO_9)) k_ hk_), (Kd.fresh' (Kd.N_lt (lN HO_10)) k_ hk_), (Kd.fresh' (Kd.N_lt (lN HO805)) k_ hk_), (Kd.fresh' (Kd.N_lt (lN HO809)) k_ hk_)⟩)) (below_size (lB HB))); have n5_ := Aside0.mk (below_step (lB HB) hb); clear HO_9 HO_10 HO805 HO809 HB; have HO_9 := n0_; have HO_10 := n1_; have HO805 := n2_; have HO809 := n3_; have HO813 := n4_; have HB := n5_; clear n0_ n1_ n2_ n3_ n4_ n5_; (try clear hb); (try clear hb2); (try clear hk); (try clear hi); (try clear ho0)))
        (try simp only [Act.put, List.setIfInBounds_toArray, List.set_cons_zero, List.set_cons_succ])
        go_cut [124] (fun v124 wc => ∃ (kq : Nat) (x124_26 : Bool), v124 = .bool x124_26 ∧ Aside0 (swagelaw21_SplitLaid.j2 kq a2 a3 t795 t798 t801 t803 t807 x124_26 = some r) ∧ Aside0 (kq ≤ kj13) ∧ Aside0 (Kd.N k39 39 wc w.heap.size (fun k_ => some k_ ≠ ((.slice Ao30 t798.length co30) : Value).ownBlock ∧ some k_ ≠ ((.slice Ao32 t803.length co32) : Value).ownBlock ∧ some k_ ≠ (v808 : Value).ownBlock) (.slice Ao28 t795.length co28) t795) ∧ Aside0 (Kd.N k39 39 wc w.heap.size (fun k_ => some k_ ≠ ((.slice Ao28 t795.length co28) : Value).ownBlock ∧ some k_ ≠ ((.slice Ao32 t803.length co32) : Value).ownBlock ∧ some k_ ≠ (v808 : Value).ownBlock) (.slice Ao30 t798.length co30) t798) ∧ Aside0 (Kd.N (Kd.slice 39 k39) 24 wc w.heap.size (fun k_ => some k_ ≠ ((.slice Ao30 t798.length co30) : Value).ownBlock ∧ some k_ ≠ (v808 : Value).ownBlock) (.slice Ao32 t803.length co32) t803) ∧ Aside0 (Kd.N (Kd.slice 39 k39) 24 wc w.heap.size (fun k_ => some k_ ≠ ((.slice Ao28 t795.length co28) : Value).ownBlock ∧ some k_ ≠ ((.slice Ao32 t803.length co32) : Value).ownBlock) v808 t807) ∧ Aside0 (Below w.heap.size w wc))
        case first =>
         have H := HC27.out
         clear HC27
         by_cases c34 : t806 = 0
         ·rw [if_pos c34] at H
          have c34b0 : (t806 == 0) = true := beq_iff_eq.mpr c34
          have c34b1 : (t806 != 0) = false := bne_eq_false_iff_eq.mpr c34
          clear c34
          (first | rw [c34b0] | (simp only [i64_w, i32_w]; rw [c34b0]) | skip)
          by_cases c35 : t810 = 0
          ·rw [if_pos c35] at H
           have c35b0 : (t810 == 0) = true := beq_iff_eq.mpr c35
           have c35b1 : (t810 != 0) = false := bne_eq_false_iff_eq.mpr c35
           clear c35
           by_cases c36 : t814 = 0
           ·rw [if_pos c36] at H
            have c36b0 : (t814 == 0) = true := beq_iff_eq.mpr c36
            have c36b1 : (t814 != 0) = false := bne_eq_false_iff_eq.mpr c36
            clear c36
            by_cases c37 : (t803.length : Int) = a2
            ·rw [if_pos c37] at H
             have c37b0 : ((t803.length : Int) == a2) = true := beq_iff_eq.mpr c37
             have c37b1 : ((t803.length : Int) != a2) = false := bne_eq_false_iff_eq.mpr c37
             clear c37
             by_cases c38 : (t807.length : Int) = a3
             ·rw [if_pos c38] at H
              have c38b0 : ((t807.length : Int) == a3) = true := beq_iff_eq.mpr c38
              have c38b1 : ((t807.length : Int) != a3) = false := bne_eq_false_iff_eq.mpr c38
              clear c38
              replace H := Option.bind_eq_some_iff.mp H
              obtain ⟨t815, A390, H⟩ := H
              replace H : (swagelaw21_SplitLaid.j2 kj13 a2 a3 t795 t798 t801 t803 t807 (!t815)) = some r := H
              have A39 := Aside0.mk A390
              clear A390
              have H' := Aside0.mk H
              clear H
              obtain ⟨Ao40, co40, eo40⟩ := Kd.N_slice HO809.out
              subst eo40
              obtain ⟨Ao41, co41, eo41⟩ := Kd.V_slice HO813.out
              subst eo41
              go_wp2_with (first | (go_at_call 27; (with_reducible refine (swagelaw21_alike.calls kj13 _ _ t811 _ _ t795 t815 _ ?side1 ?side2 ?side3 ?side4 A39.out).mono ?_); (case side1 => repeat (first | exact (Kd.V_reads' HO813.out).2.2 | (with_reducible refine Kd.C_alloc ?_ _) | (with_reducible refine Kd.C_drewN ?_ _) | (with_reducible refine Kd.C_drew ?_))); (case side2 => exact (Kd.V_reads' HO813.out).2.1); (case side3 => repeat (first | exact (Kd.N_reads' HO_9.out).2.2 | (with_reducible refine Kd.C_alloc ?_ _) | (with_reducible refine Kd.C_drewN ?_ _) | (with_reducible refine Kd.C_drew ?_))); (case side4 => exact (Kd.N_reads' HO_9.out).2.1); rintro e w42 ⟨rfl, hb⟩; have n0_ := Aside0.mk (Kd.N_below (lN HO_9) hb); have n1_ := Aside0.mk (Kd.N_below (lN HO_10) hb); have n2_ := Aside0.mk (Kd.N_below (lN HO805) hb); have n3_ := Aside0.mk (Kd.N_below (lN HO809) hb); have n4_ := Aside0.mk (Kd.V_below (lV HO813) hb); have n5_ := Aside0.mk (below_step (lB HB) hb); clear HO_9 HO_10 HO805 HO809 HO813 HB; have HO_9 := n0_; have HO_10 := n1_; have HO805 := n2_; have HO809 := n3_; have HO813 := n4_; have HB := n5_; clear n0_ n1_ n2_ n3_ n4_ n5_; (try clear hb); (try clear hb2); (try clear hk); (try clear hi)))
              go_meet
              case rel => exact ⟨_, (!t815), (by first | rfl | (simp; done) | (simp [*]; done)), H', ⟨by have := HJ6.out; have := HJ13.out; first | omega | exact Nat.le_refl _⟩, ⟨by (with_reducible repeat (first | apply Kd.N_alloc | apply Kd.N_drewN | apply Kd.N_drew)); exact Kd.N_mono HO_9.out (fun _ hk => ⟨hk.1.1, ⟨hk.1.2, hk.2⟩⟩)⟩, ⟨by (with_reducible repeat (first | apply Kd.N_alloc | apply Kd.N_drewN | apply Kd.N_drew)); exact Kd.N_mono HO_10.out (fun _ hk => ⟨hk.1.1, ⟨hk.1.2, hk.2⟩⟩)⟩, ⟨by (with_reducible repeat (first | apply Kd.N_alloc | apply Kd.N_drewN | apply Kd.N_drew)); exact HO805.out⟩, ⟨by (with_reducible repeat (first | apply Kd.N_alloc | apply Kd.N_drewN | apply Kd.N_drew)); exact HO809.out⟩, ⟨by repeat (first | (with_reducible first | exact HB.out | apply below_alloc | apply pw_below_drewN | apply below_drew1) | exact HB.out)⟩⟩
             ·rw [if_neg c38] at H
              have c38b0 : ((t807.length : Int) == a3) = false := beq_eq_false_iff_ne.mpr c38
              have c38b1 : ((t807.length : Int) != a3) = true := bne_iff_ne.mpr c38
              have H' := Aside0.mk H
              clear H
              obtain ⟨Ao43, co43, eo43⟩ := Kd.N_slice HO809.out
              subst eo43
              go_wp2
              go_meet
              case rel => exact ⟨_, (true), (by first | rfl | (simp; done) | (simp [*]; done)), H', ⟨by have := HJ6.out; have := HJ13.out; first | omega | exact Nat.le_refl _⟩, ⟨by (with_reducible repeat (first | apply Kd.N_alloc | apply Kd.N_drewN | apply Kd.N_drew)); exact Kd.N_mono HO_9.out (fun _ hk => ⟨hk.1.1, ⟨hk.1.2, hk.2⟩⟩)⟩, ⟨by (with_reducible repeat (first | apply Kd.N_alloc | apply Kd.N_drewN | apply Kd.N_drew)); exact Kd.N_mono HO_10.out (fun _ hk => ⟨hk.1.1, ⟨hk.1.2, hk.2⟩⟩)⟩, ⟨by (with_reducible repeat (first | apply Kd.N_alloc | apply Kd.N_drewN | apply Kd.N_drew)); exact HO805.out⟩, ⟨by (with_reducible repeat (first | apply Kd.N_alloc | apply Kd.N_drewN | apply Kd.N_drew)); exact HO809.out⟩, ⟨by repeat (first | (with_reducible first | exact HB.out | apply below_alloc | apply pw_below_drewN | apply below_drew1) | exact HB.out)⟩⟩
            ·rw [if_neg c37] at H
             have c37b0 : ((t803.length : Int) == a2) = false := beq_eq_false_iff_ne.mpr c37
             have c37b1 : ((t803.length : Int) != a2) = true := bne_iff_ne.mpr c37
             have H' := Aside0.mk H
             clear H
             go_wp2
             go_meet
             case rel => exact ⟨_, (true), (by first | rfl | (simp; done) | (simp [*]; done)), H', ⟨by have := HJ6.out; have := HJ13.out; first | omega | exact Nat.le_refl _⟩, ⟨by (with_reducible repeat (first | apply Kd.N_alloc | apply Kd.N_drewN | apply Kd.N_drew)); exact Kd.N_mono HO_9.out (fun _ hk => ⟨hk.1.1, ⟨hk.1.2, hk.2⟩⟩)⟩, ⟨by (with_reducible repeat (first | apply Kd.N_alloc | apply Kd.N_drewN | apply Kd.N_drew)); exact Kd.N_mono HO_10.out (fun _ hk => ⟨hk.1.1, ⟨hk.1.2, hk.2⟩⟩)⟩, ⟨by (with_reducible repeat (first | apply Kd.N_alloc | apply Kd.N_drewN | apply Kd.N_drew)); exact HO805.out⟩, ⟨by (with_reducible repeat (first | apply Kd.N_alloc | apply Kd.N_drewN | apply Kd.N_drew)); exact HO809.out⟩, ⟨by repeat (first | (with_reducible first | exact HB.out | apply below_alloc | apply pw_below_drewN | apply below_drew1) | exact HB.out)⟩⟩
           ·rw [if_neg c36] at H
            have c36b0 : (t814 == 0) = false := beq_eq_false_iff_ne.mpr c36
            have c36b1 : (t814 != 0) = true := bne_iff_ne.mpr c36
            have H' := Aside0.mk H
            clear H
            go_wp2
            go_meet
            case rel => exact ⟨_, (true), (by first | rfl | (simp; done) | (simp [*]; done)), H', ⟨by have := HJ6.out; have := HJ13.out; first | omega | exact Nat.le_refl _⟩, ⟨by (with_reducible repeat (first | apply Kd.N_alloc | apply Kd.N_drewN | apply Kd.N_drew)); exact Kd.N_mono HO_9.out (fun _ hk => ⟨hk.1.1, ⟨hk.1.2, hk.2⟩⟩)⟩, ⟨by (with_reducible repeat (first | apply Kd.N_alloc | apply Kd.N_drewN | apply Kd.N_drew)); exact Kd.N_mono HO_10.out (fun _ hk => ⟨hk.1.1, ⟨hk.1.2, hk.2⟩⟩)⟩, ⟨by (with_reducible repeat (first | apply Kd.N_alloc | apply Kd.N_drewN | apply Kd.N_drew)); exact HO805.out⟩, ⟨by (with_reducible repeat (first | apply Kd.N_alloc | apply Kd.N_drewN | apply Kd.N_drew)); exact HO809.out⟩, ⟨by repeat (first | (with_reducible first | exact HB.out | apply below_alloc | apply pw_below_drewN | apply below_drew1) | exact HB.out)⟩⟩
          ·rw [if_neg c35] at H
           have c35b0 : (t810 == 0) = false := beq_eq_false_iff_ne.mpr c35
           have c35b1 : (t810 != 0) = true := bne_iff_ne.mpr c35
           have H' := Aside0.mk H
           clear H
           go_wp2
           go_meet
           case rel => exact ⟨_, (true), (by first | rfl | (simp; done) | (simp [*]; done)), H', ⟨by have := HJ6.out; have := HJ13.out; first | omega | exact Nat.le_refl _⟩, ⟨by (with_reducible repeat (first | apply Kd.N_alloc | apply Kd.N_drewN | apply Kd.N_drew)); exact Kd.N_mono HO_9.out (fun _ hk => ⟨hk.1.1, ⟨hk.1.2, hk.2⟩⟩)⟩, ⟨by (with_reducible repeat (first | apply Kd.N_alloc | apply Kd.N_drewN | apply Kd.N_drew)); exact Kd.N_mono HO_10.out (fun _ hk => ⟨hk.1.1, ⟨hk.1.2, hk.2⟩⟩)⟩, ⟨by (with_reducible repeat (first | apply Kd.N_alloc | apply Kd.N_drewN | apply Kd.N_drew)); exact HO805.out⟩, ⟨by (with_reducible repeat (first | apply Kd.N_alloc | apply Kd.N_drewN | apply Kd.N_drew)); exact HO809.out⟩, ⟨by repeat (first | (with_reducible first | exact HB.out | apply below_alloc | apply pw_below_drewN | apply below_drew1) | exact HB.out)⟩⟩
         ·rw [if_neg c34] at H
          have c34b0 : (t806 == 0) = false := beq_eq_false_iff_ne.mpr c34
          have c34b1 : (t806 != 0) = true := bne_iff_ne.mpr c34
          (first | rw [c34b0] | (simp only [i64_w, i32_w]; rw [c34b0]) | skip)
          have H' := Aside0.mk H
          clear H
          go_wp2
          go_meet
          case rel => exact ⟨_, (true), (by first | rfl | (simp; done) | (simp [*]; done)), H', ⟨by have := HJ6.out; have := HJ13.out; first | omega | exact Nat.le_refl _⟩, ⟨by (with_reducible repeat (first | apply Kd.N_alloc | apply Kd.N_drewN | apply Kd.N_drew)); exact Kd.N_mono HO_9.out (fun _ hk => ⟨hk.1.1, ⟨hk.1.2, hk.2⟩⟩)⟩, ⟨by (with_reducible repeat (first | apply Kd.N_alloc | apply Kd.N_drewN | apply Kd.N_drew)); exact Kd.N_mono HO_10.out (fun _ hk => ⟨hk.1.1, ⟨hk.1.2, hk.2⟩⟩)⟩, ⟨by (with_reducible repeat (first | apply Kd.N_alloc | apply Kd.N_drewN | apply Kd.N_drew)); exact HO805.out⟩, ⟨by (with_reducible repeat (first | apply Kd.N_alloc | apply Kd.N_drewN | apply Kd.N_drew)); exact HO809.out⟩, ⟨by repeat (first | (with_reducible first | exact HB.out | apply below_alloc | apply pw_below_drewN | apply below_drew1) | exact HB.out)⟩⟩
        case rest =>
         clear HC27
         try clear c1
         try clear c6
         try clear c10
         try clear c19
         obtain ⟨kq, x124_26, rfl, HA, HJ26, HO_9, HO_10, HO_13, HO_15, HB⟩ := hcut
         cases kq with
         | zero => exact absurd HA.out (by simp [swagelaw21_SplitLaid.j2])
         | succ kj26 =>
          have H := HA.out
          clear HA
          simp only [swagelaw21_SplitLaid.j2] at H
          by_cases c44 : x124_26 = true
          ·subst c44
           have H1 : (some false) = some r := by rw [if_pos rfl] at H; exact H
           clear H
           have H := H1
           clear H1
           obtain rfl := Option.some.inj H
           exact absurd hT.out (by simp)
          ·replace c44 := Bool.eq_false_iff.mpr c44
           subst c44
           have H1 : (if 0 ≤ (wrap64 ((wrap64 (a2 + a3)) - 1)) then (if (wrap64 ((wrap64 (a2 + a3)) - 1) : Int).toNat ≤ 11728124029610 then (swagelaw21_SplitLaid.l0 kj26 t795 t798 t801 t803 t807 (List.replicate (wrap64 ((wrap64 (a2 + a3)) - 1) : Int).toNat []) (t803.length : Int) 0) else (none)) else (none)) = some r := by rw [if_neg (show ¬ (false = true) by decide)] at H; exact H
           clear H
           have H := H1
           clear H1
           obtain ⟨ji45, hji45⟩ : ∃ j_ : Int, (wrap64 ((wrap64 (a2 + a3)) - 1)) = j_ := ⟨_, rfl⟩
           replace H : (if 0 ≤ (ji45) then (if (ji45 : Int).toNat ≤ 11728124029610 then (swagelaw21_SplitLaid.l0 kj26 t795 t798 t801 t803 t807 (List.replicate (ji45 : Int).toNat []) (t803.length : Int) 0) else (none)) else (none)) = some r := by first | (rw [hji45] at H; exact H) | (simp only [hji45] at H ⊢; exact H)
           have hji45w : (IntKind.i64.wrap ((wrap64 (a2 + a3)) - 1)) = ji45 := (i64_w _).trans hji45
           by_cases c46 : 0 ≤ (ji45)
           ·rw [if_pos c46] at H
            have c46b0 := eq_true c46
            have c46b1 : decide (0 ≤ (ji45)) = true := decide_eq_true c46
            clear c46
            by_cases c47 : (ji45 : Int).toNat ≤ 11728124029610
            ·rw [if_pos c47] at H
             have c47b0 := eq_true c47
             have c47b1 : decide ((ji45 : Int).toNat ≤ 11728124029610) = true := decide_eq_true c47
             clear c47
             obtain ⟨y816, hy816⟩ : ∃ y_ : List (List (S39)), y_ = (List.replicate (ji45 : Int).toNat []) := ⟨_, rfl⟩
             replace H : (swagelaw21_SplitLaid.l0 kj26 t795 t798 t801 t803 t807 y816 (t803.length : Int) 0) = some r := by first | (rw [hy816]; with_reducible exact H) | (have H2_ := (Option.bind_some _ _).symm.trans H; rw [hy816]; with_reducible exact H2_) | (have H2_ := (Option.bind_some _ _).symm.trans H; with_reducible exact H2_) | with_reducible exact H | (rw [hy816]; exact H) | exact H
             have Ny816 := Aside0.mk hy816
             clear hy816
             have H' := Aside0.mk H
             clear H
             go_wp2_with (first | ((with_reducible refine gate_dst (N := 129) rfl ?_); (try (refine gate_guard (by rfl) ?_; dsimp only)); refine Kd.N_make (Kd.slice 39 k39) _ 24 rfl (N' := 129) rfl 26 _ _ rfl ji45 rfl rfl Tryd.underlying26 (.slice none 0 0) 24 info24 rfl (by decide) (by omega) [] (ok := fun k_ => wc.heap.size ≤ k_) (okp := fun _ => False) (Kd.FK_slice_mk (Nat.le_refl _) (Kd.F_nil _ _ _)) (fun _ hk => hk.elim) (Nat.le_refl _) (of_decide_eq_true (by first | (with_reducible assumption) | assumption)) (Nat.le_trans (Nat.mul_le_mul_right _ (of_decide_eq_true (by first | (with_reducible assumption) | assumption) : ji45.toNat ≤ 11728124029610)) (by omega)) (Below.refl _ _) (Nat.le_refl _) ?_; intro v817 w48 ho49 hb hg_ hnew_; clear hg_ hnew_; (first | rw [← Ny816.out] at ho49 | (simp only [Int.reduceToNat] at ho49; rw [← Ny816.out] at ho49)); have n0_ := Aside0.mk (Kd.N_elder' (lN HO_9) (Kd.N_base ho49) hb); have n1_ := Aside0.mk (Kd.N_elder' (lN HO_10) (Kd.N_base ho49) hb); have n2_ := Aside0.mk (Kd.N_elder' (lN HO_13) (Kd.N_base ho49) hb); have n3_ := Aside0.mk (Kd.N_elder' (lN HO_15) (Kd.N_base ho49) hb); have n4_ := Aside0.mk (Kd.N_lower (Kd.N_mono (ok' := fun k_ => some k_ ≠ (.slice Ao28 t795.length co28 : Value).ownBlock ∧ some k_ ≠ (.slice Ao30 t798.length co30 : Value).ownBlock ∧ some k_ ≠ (.slice Ao32 t803.length co32 : Value).ownBlock ∧ some k_ ≠ (v808 : Value).ownBlock) ho49 (fun k_ hk_ => ⟨(Kd.fresh' (Kd.N_lt (lN HO_9)) k_ hk_), (Kd.fresh' (Kd.N_lt (lN HO_10)) k_ hk_), (Kd.fresh' (Kd.N_lt (lN HO_13)) k_ hk_), (Kd.fresh' (Kd.N_lt (lN HO_15)) k_ hk_)⟩)) (below_size (lB HB))); have n5_ := Aside0.mk (below_step (lB HB) hb); clear HO_9 HO_10 HO_13 HO_15 HB; have HO_9 := n0_; have HO_10 := n1_; have HO_13 := n2_; have HO_15 := n3_; have HO818 := n4_; have HB := n5_; clear n0_ n1_ n2_ n3_ n4_ n5_; clear hb ho49))
             go_loopg [132] kj26 (fun kq v132 w' => ∃ (x19_4 : List (List (S39))) (x132_4 : Int), v132 = .int .i64 x132_4 ∧ Aside0 (swagelaw21_SplitLaid.l0 kq t795 t798 t801 t803 t807 x19_4 (t803.length : Int) x132_4 = some r) ∧ Aside0 (kq ≤ kj26) ∧ Aside0 (Kd.N k39 39 w' w.heap.size (fun k_ => some k_ ≠ ((.slice Ao30 t798.length co30) : Value).ownBlock ∧ some k_ ≠ ((.slice Ao32 t803.length co32) : Value).ownBlock ∧ some k_ ≠ (v808 : Value).ownBlock ∧ some k_ ≠ (v817 : Value).ownBlock) (.slice Ao28 t795.length co28) t795) ∧ Aside0 (Kd.N k39 39 w' w.heap.size (fun k_ => some k_ ≠ ((.slice Ao28 t795.length co28) : Value).ownBlock ∧ some k_ ≠ ((.slice Ao32 t803.length co32) : Value).ownBlock ∧ some k_ ≠ (v808 : Value).ownBlock ∧ some k_ ≠ (v817 : Value).ownBlock) (.slice Ao30 t798.length co30) t798) ∧ Aside0 (Kd.N (Kd.slice 39 k39) 24 w' w.heap.size (fun k_ => some k_ ≠ ((.slice Ao30 t798.length co30) : Value).ownBlock ∧ some k_ ≠ (v808 : Value).ownBlock ∧ some k_ ≠ (v817 : Value).ownBlock) (.slice Ao32 t803.length co32) t803) ∧ Aside0 (Kd.N (Kd.slice 39 k39) 24 w' w.heap.size (fun k_ => some k_ ≠ ((.slice Ao28 t795.length co28) : Value).ownBlock ∧ some k_ ≠ ((.slice Ao32 t803.length co32) : Value).ownBlock ∧ some k_ ≠ (v817 : Value).ownBlock) v808 t807) ∧ Aside0 (Kd.N (Kd.slice 39 k39) 24 w' w.heap.size (fun k_ => some k_ ≠ ((.slice Ao28 t795.length co28) : Value).ownBlock ∧ some k_ ≠ ((.slice Ao30 t798.length co30) : Value).ownBlock ∧ some k_ ≠ ((.slice Ao32 t803.length co32) : Value).ownBlock ∧ some k_ ≠ (v808 : Value).ownBlock) v817 x19_4) ∧ Aside0 (Below w.heap.size w w'))
             case atStart => exact ⟨(y816), (0), (by first | rfl | (simp; done) | (simp [*]; done)), H', ⟨Nat.le_refl _⟩, ⟨by (with_reducible repeat (first | apply Kd.N_alloc | apply Kd.N_drewN | apply Kd.N_drew)); exact Kd.N_mono HO_9.out (fun _ hk => ⟨hk.1.1, ⟨hk.1.2.1, ⟨hk.1.2.2, hk.2⟩⟩⟩)⟩, ⟨by (with_reducible repeat (first | apply Kd.N_alloc | apply Kd.N_drewN | apply Kd.N_drew)); exact Kd.N_mono HO_10.out (fun _ hk => ⟨hk.1.1, ⟨hk.1.2.1, ⟨hk.1.2.2, hk.2⟩⟩⟩)⟩, ⟨by (with_reducible repeat (first | apply Kd.N_alloc | apply Kd.N_drewN | apply Kd.N_drew)); exact Kd.N_mono HO_13.out (fun _ hk => ⟨hk.1.1, ⟨hk.1.2, hk.2⟩⟩)⟩, ⟨by (with_reducible repeat (first | apply Kd.N_alloc | apply Kd.N_drewN | apply Kd.N_drew)); exact Kd.N_mono HO_15.out (fun _ hk => ⟨hk.1.1, ⟨hk.1.2, hk.2⟩⟩)⟩, ⟨by (with_reducible repeat (first | apply Kd.N_alloc | apply Kd.N_drewN | apply Kd.N_drew)); exact HO818.out⟩, ⟨by repeat (first | (with_reducible first | exact HB.out | apply below_alloc | apply pw_below_drewN | apply below_drew1) | exact HB.out)⟩⟩
             case round =>
              clear H'
              try clear c1
              try clear c6
              try clear c10
              try clear c19
              try clear c44
              try clear c46
              try clear c47
              obtain ⟨x19_4, x132_4, rfl, HA, HK4, HO_9, HO_10, HO_13, HO_15, HO_19, HB⟩ := hrel
              cases gk with
              | zero => exact absurd HA.out (by simp [swagelaw21_SplitLaid.l0])
              | succ k4 =>
               have H := HA.out
               clear HA
               simp only [swagelaw21_SplitLaid.l0] at H
               by_cases c50 : x132_4 < (t803.length : Int)
               ·rw [if_pos c50] at H
                have c50b0 : decide (x132_4 < (t803.length : Int)) = true := decide_eq_true c50
                clear c50
                have H' := Aside0.mk H
                clear H
                obtain ⟨Ao51, co51, eo51⟩ := Kd.N_slice HO_15.out
                subst eo51
                go_wp2
                go_loopg [137] k4 (fun kq v137 w' => ∃ (x19_5 : List (List (S39))) (x137_5 : Int), v137 = .int .i64 x137_5 ∧ Aside0 (swagelaw21_SplitLaid.l1 kq t795 t798 t801 t803 t807 x19_5 x132_4 (t803.length : Int) x132_4 (t807.length : Int) x137_5 = some r) ∧ Aside0 (kq ≤ k4) ∧ Aside0 (Kd.N k39 39 w' w.heap.size (fun k_ => some k_ ≠ ((.slice Ao30 t798.length co30) : Value).ownBlock ∧ some k_ ≠ ((.slice Ao32 t803.length co32) : Value).ownBlock ∧ some k_ ≠ ((.slice Ao51 t807.length co51) : Value).ownBlock ∧ some k_ ≠ (v817 : Value).ownBlock) (.slice Ao28 t795.length co28) t795) ∧ Aside0 (Kd.N k39 39 w' w.heap.size (fun k_ => some k_ ≠ ((.slice Ao28 t795.length co28) : Value).ownBlock ∧ some k_ ≠ ((.slice Ao32 t803.length co32) : Value).ownBlock ∧ some k_ ≠ ((.slice Ao51 t807.length co51) : Value).ownBlock ∧ some k_ ≠ (v817 : Value).ownBlock) (.slice Ao30 t798.length co30) t798) ∧ Aside0 (Kd.N (Kd.slice 39 k39) 24 w' w.heap.size (fun k_ => some k_ ≠ ((.slice Ao30 t798.length co30) : Value).ownBlock ∧ some k_ ≠ ((.slice Ao51 t807.length co51) : Value).ownBlock ∧ some k_ ≠ (v817 : Value).ownBlock) (.slice Ao32 t803.length co32) t803) ∧ Aside0 (Kd.N (Kd.slice 39 k39) 24 w' w.heap.size (fun k_ => some k_ ≠ ((.slice Ao28 t795.length co28) : Value).ownBlock ∧ some k_ ≠ ((.slice Ao32 t803.length co32) : Value).ownBlock ∧ some k_ ≠ (v817 : Value).ownBlock) (.slice Ao51 t807.length co51) t807) ∧ Aside0 (Kd.N (Kd.slice 39 k39) 24 w' w.heap.size (fun k_ => some k_ ≠ ((.slice Ao28 t795.length co28) : Value).ownBlock ∧ some k_ ≠ ((.slice Ao30 t798.length co30) : Value).ownBlock ∧ some k_ ≠ ((.slice Ao32 t803.length co32) : Value).ownBlock ∧ some k_ ≠ ((.slice Ao51 t807.length co51) : Value).ownBlock) v817 x19_5) ∧ Aside0 (Below w.heap.size w w'))
                case atStart => exact ⟨(x19_4), (0), (by first | rfl | (simp; done) | (simp [*]; done)), H', ⟨Nat.le_refl _⟩, ⟨by (with_reducible repeat (first | apply Kd.N_alloc | apply Kd.N_drewN | apply Kd.N_drew)); exact HO_9.out⟩, ⟨by (with_reducible repeat (first | apply Kd.N_alloc | apply Kd.N_drewN | apply Kd.N_drew)); exact HO_10.out⟩, ⟨by (with_reducible repeat (first | apply Kd.N_alloc | apply Kd.N_drewN | apply Kd.N_drew)); exact HO_13.out⟩, ⟨by (with_reducible repeat (first | apply Kd.N_alloc | apply Kd.N_drewN | apply Kd.N_drew)); exact HO_15.out⟩, ⟨by (with_reducible repeat (first | apply Kd.N_alloc | apply Kd.N_drewN | apply Kd.N_drew)); exact HO_19.out⟩, ⟨by repeat (first | (with_reducible first | exact HB.out | apply below_alloc | apply pw_below_drewN | apply below_drew1) | exact HB.out)⟩⟩
                case round =>
                 clear H'
                 try clear c1
                 try clear c6
                 try clear c10
                 try clear c19
                 try clear c44
                 try clear c46
                 try clear c47
                 try clear c50
                 obtain ⟨x19_5, x137_5, rfl, HA, HK5, HO_9, HO_10, HO_13, HO_15, HO_19, HB⟩ := hrel
                 cases gk with
                 | zero => exact absurd HA.out (by simp [swagelaw21_SplitLaid.l1])
                 | succ k5 =>
                  have H := HA.out
                  clear HA
                  simp only [swagelaw21_SplitLaid.l1] at H
                  by_cases c52 : x137_5 < (t807.length : Int)
                  ·rw [if_pos c52] at H
                   have c52b0 : decide (x137_5 < (t807.length : Int)) = true := decide_eq_true c52
                   clear c52
                   by_cases c53 : 0 ≤ x132_4
                   ·rw [if_pos c53] at H
                    have c53b0 : decide (0 ≤ x132_4) = true := decide_eq_true c53
                    clear c53
                    by_cases c54 : x132_4 < (t803.length : Int)
                    ·rw [if_pos c54] at H
                     have c54b0 : decide (x132_4 < (t803.length : Int)) = true := decide_eq_true c54
                     clear c54
                     by_cases c55 : 0 ≤ x137_5
                     ·rw [if_pos c55] at H
                      have c55b0 : decide (0 ≤ x137_5) = true := decide_eq_true c55
                      clear c55
                      by_cases c56 : x137_5 < (t807.length : Int)
                      ·rw [if_pos c56] at H
                       have c56b0 : decide (x137_5 < (t807.length : Int)) = true := decide_eq_true c56
                       clear c56
                       replace H := Option.bind_eq_some_iff.mp H
                       obtain ⟨⟨t830, t833⟩, A570, H⟩ := H
                       replace H : (if 0 ≤ (wrap64 (x132_4 + x137_5)) then (if (wrap64 (x132_4 + x137_5)) < (x19_5.length : Int) then ((poly_Add.f k5 (rd_L5 x19_5 (wrap64 (x132_4 + x137_5))) t830).bind fun t835 => (swagelaw21_SplitLaid.l1 k5 t795 t798 t801 t803 t807 (x19_5.set ((wrap64 (x132_4 + x137_5)) : Int).toNat t835) x132_4 (t803.length : Int) x132_4 (t807.length : Int) (wrap64 (x137_5 + 1)))) else (none)) else (none)) = some r := H
                       have A57 := Aside0.mk A570
                       clear A570
                       obtain ⟨ji58, hji58⟩ : ∃ j_ : Int, (wrap64 (x132_4 + x137_5)) = j_ := ⟨_, rfl⟩
                       replace H : (if 0 ≤ (ji58) then (if (ji58) < (x19_5.length : Int) then ((poly_Add.f k5 (rd_L5 x19_5 (ji58)) t830).bind fun t835 => (swagelaw21_SplitLaid.l1 k5 t795 t798 t801 t803 t807 (x19_5.set ((ji58) : Int).toNat t835) x132_4 (t803.length : Int) x132_4 (t807.length : Int) (wrap64 (x137_5 + 1)))) else (none)) else (none)) = some r := by first | (rw [hji58] at H; exact H) | (simp only [hji58] at H ⊢; exact H)
                       (try rw [hji58] at A57)
                       have hji58w : (IntKind.i64.wrap (x132_4 + x137_5)) = ji58 := (i64_w _).trans hji58
                       by_cases c59 : 0 ≤ (ji58)
                       ·rw [if_pos c59] at H
                        have c59b0 : decide (0 ≤ (ji58)) = true := decide_eq_true c59
                        clear c59
                        by_cases c60 : (ji58) < (x19_5.length : Int)
                        ·rw [if_pos c60] at H
                         have c60b0 : decide ((ji58) < (x19_5.length : Int)) = true := decide_eq_true c60
                         clear c60
                         replace H := Option.bind_eq_some_iff.mp H
                         obtain ⟨t835, A610, H⟩ := H
                         replace H : (swagelaw21_SplitLaid.l1 k5 t795 t798 t801 t803 t807 (x19_5.set ((ji58) : Int).toNat t835) x132_4 (t803.length : Int) x132_4 (t807.length : Int) (wrap64 (x137_5 + 1))) = some r := H
                         have A61 := Aside0.mk A610
                         clear A610
                         obtain ⟨y838, hy838⟩ : ∃ y_ : List (List (S39)), y_ = (x19_5.set ((ji58) : Int).toNat t835) := ⟨_, rfl⟩
                         replace H : (swagelaw21_SplitLaid.l1 k5 t795 t798 t801 t803 t807 y838 x132_4 (t803.length : Int) x132_4 (t807.length : Int) (wrap64 (x137_5 + 1))) = some r := by first | (rw [hy838]; with_reducible exact H) | (have H2_ := (Option.bind_some _ _).symm.trans H; rw [hy838]; with_reducible exact H2_) | (have H2_ := (Option.bind_some _ _).symm.trans H; with_reducible exact H2_) | with_reducible exact H | (rw [hy838]; exact H) | exact H
                         have Ny838 := Aside0.mk hy838
                         clear hy838
                         have H' := Aside0.mk H
                         clear H
                         try go_wp2
                         have n0_ := Aside0.mk (Kd.N_drew HO_9.out)
                         have n1_ := Aside0.mk (Kd.N_drew HO_10.out)
                         have n2_ := Aside0.mk (Kd.N_drew HO_13.out)
                         have n3_ := Aside0.mk (Kd.N_drew HO_15.out)
                         have n4_ := Aside0.mk (Kd.N_drew HO_19.out)
                         have n5_ := Aside0.mk (below_drew1 HB.out)
                         clear HO_9
                         clear HO_10
                         clear HO_13
                         clear HO_15
                         clear HO_19
                         clear HB
                         have HO_9 := n0_
                         have HO_10 := n1_
                         have HO_13 := n2_
                         have HO_15 := n3_
                         have HO_19 := n4_
                         have HB := n5_
                         clear n0_ n1_ n2_ n3_ n4_ n5_
                         have p828 : 0 ≤ (x132_4 : Int) := of_decide_eq_true (by first | (with_reducible assumption) | assumption)
                         have q828 : x132_4 < (t803.length : Int) := of_decide_eq_true (by first | (with_reducible assumption) | assumption)
                         obtain ⟨ad828, A828_0, c828_0, e828, hx828_0, hl828_0, hi828_0⟩ := at_L5 (Kd.N_reads' HO_13.out).2.2 x132_4 p828 q828
                         cases e828
                         obtain ⟨ce828, hce828, hMe828, hcc828⟩ := Kd.N_get HO_13.out [] x132_4 p828 (by first | exact q828 | exact of_decide_eq_true (by first | (with_reducible assumption) | assumption) | (have e_ := (Kd.N_reads' HO_13.out).1; omega))
                         obtain ⟨ua828_0, uc828_0, rfl, ul828_0, ge828_0⟩ := Kd.FK_slice_open hMe828
                         have hv828_0 := hcc828 0 _ rfl
                         rw [Nat.add_zero, show ((Kd.slice 39 k39)).sz = 1 from rfl, Nat.mul_one] at hv828_0
                         replace hv828_0 := Option.some.inj (hv828_0.symm.trans hx828_0)
                         injection hv828_0 with hva_ hvn_ hvc_
                         rw [hva_] at ge828_0
                         rw [hvc_] at ul828_0
                         have HL828_0 := Aside0.mk (show Kd.V k39 39 _ w.heap.size _ _ (rd_L5 t803 x132_4) from Kd.V_mk ul828_0 ge828_0)
                         clear hva_ hvn_ hvc_ ge828_0 ul828_0
                         clear hcc828 hce828
                         have HR828_0 := Aside0.mk hi828_0
                         have HC828_0 := Aside0.mk hl828_0
                         clear hi828_0 hl828_0
                         replace p828 := eq_true p828
                         replace q828 := eq_true q828
                         have p829 : 0 ≤ (x137_5 : Int) := of_decide_eq_true (by first | (with_reducible assumption) | assumption)
                         have q829 : x137_5 < (t807.length : Int) := of_decide_eq_true (by first | (with_reducible assumption) | assumption)
                         obtain ⟨ad829, A829_0, c829_0, e829, hx829_0, hl829_0, hi829_0⟩ := at_L5 (Kd.N_reads' HO_15.out).2.2 x137_5 p829 q829
                         cases e829
                         obtain ⟨ce829, hce829, hMe829, hcc829⟩ := Kd.N_get HO_15.out [] x137_5 p829 (by first | exact q829 | exact of_decide_eq_true (by first | (with_reducible assumption) | assumption) | (have e_ := (Kd.N_reads' HO_15.out).1; omega))
                         obtain ⟨ua829_0, uc829_0, rfl, ul829_0, ge829_0⟩ := Kd.FK_slice_open hMe829
                         have hv829_0 := hcc829 0 _ rfl
                         rw [Nat.add_zero, show ((Kd.slice 39 k39)).sz = 1 from rfl, Nat.mul_one] at hv829_0
                         replace hv829_0 := Option.some.inj (hv829_0.symm.trans hx829_0)
                         injection hv829_0 with hva_ hvn_ hvc_
                         rw [hva_] at ge829_0
                         rw [hvc_] at ul829_0
                         have HL829_0 := Aside0.mk (show Kd.V k39 39 _ w.heap.size _ _ (rd_L5 t807 x137_5) from Kd.V_mk ul829_0 ge829_0)
                         clear hva_ hvn_ hvc_ ge829_0 ul829_0
                         clear hcc829 hce829
                         have HR829_0 := Aside0.mk hi829_0
                         have HC829_0 := Aside0.mk hl829_0
                         clear hi829_0 hl829_0
                         replace p829 := eq_true p829
                         replace q829 := eq_true q829
                         refine start_ (n := 14) (S := fun w' => w'.cell? (ad828.add (x132_4).toNat) = some (.slice A828_0 (rd_L5 t803 x132_4).length c828_0) ∧ w'.cell? (ad829.add (x137_5).toNat) = some (.slice A829_0 (rd_L5 t807 x137_5).length c829_0)) (ds := []) #[false, false, false, false, false, false, false, false, false, false, false, false, false, false] (by kernel_rfl) rfl rfl ⟨hx828_0, hx829_0⟩ (fun hHeld => ?_); refine with_tabW swagelaw21_SplitLaid.tab21 swagelaw21_SplitLaid.bits21 (fun HT_ HW_ => ?_)
                         generalize wr.drew = w63 at HO_9 HO_10 HO_13 HO_15 HO_19 HB HL828_0 HL829_0 HR828_0 HR829_0 hx828_0 hx829_0 hHeld ⊢
                         refine pure_ (i := 0) (N := some 141) (v := ?_) (a' := ?_) #[true, false, false, false, false, false, false, false, false, false, false, false, false, false] rfl rfl (any_of HT_.out (by kernel_rfl)) (fun _ _ _ h => h) (Or.inl ⟨by rfl, ?_⟩) ?_ ?_
                         rotate_left
                         ·intro w'
                          go_simp
                          with_reducible rfl
                         rotate_left
                         ·simp only [Act.put, List.setIfInBounds_toArray, List.set_cons_zero, List.set_cons_succ, i64_w, i32_w]
                          rfl
                         refine pure_ (i := 1) (N := some 142) (v := ?_) (a' := ?_) #[true, true, false, false, false, false, false, false, false, false, false, false, false, false] rfl rfl (any_of HT_.out (by kernel_rfl)) (fun _ _ _ h => h) (Or.inl ⟨by rfl, ?_⟩) ?_ ?_
                         rotate_left
                         ·intro w'
                          go_simp
                          with_reducible rfl
                         rotate_left
                         ·simp only [Act.put, List.setIfInBounds_toArray, List.set_cons_zero, List.set_cons_succ, i64_w, i32_w]
                          rfl
                         refine pure_ (i := 2) (N := some 143) (v := ?_) (a' := ?_) #[true, true, true, false, false, false, false, false, false, false, false, false, false, false] rfl rfl (any_of HT_.out (by kernel_rfl)) (fun _ _ _ h => h) (Or.inl ⟨by rfl, ?_⟩) ?_ ?_
                         rotate_left
                         ·intro w'
                          go_simp
                          with_reducible rfl
                         rotate_left
                         ·simp only [Act.put, List.setIfInBounds_toArray, List.set_cons_zero, List.set_cons_succ, i64_w, i32_w]
                          rfl
                         refine pure_ (i := 4) (N := some 145) (v := ?_) (a' := ?_) #[true, true, true, false, true, false, false, false, false, false, false, false, false, false] rfl rfl (any_of HT_.out (by kernel_rfl)) (fun _ _ _ h => h) (Or.inl ⟨by rfl, ?_⟩) ?_ ?_
                         rotate_left
                         ·intro w'
                          go_simp
                          with_reducible rfl
                         rotate_left
                         ·simp only [Act.put, List.setIfInBounds_toArray, List.set_cons_zero, List.set_cons_succ, i64_w, i32_w]
                          rfl
                         refine pure_ (i := 5) (N := some 146) (v := ?_) (a' := ?_) #[true, true, true, false, true, true, false, false, false, false, false, false, false, false] rfl rfl (any_of HT_.out (by kernel_rfl)) (fun _ _ _ h => h) (Or.inl ⟨by rfl, ?_⟩) ?_ ?_
                         rotate_left
                         ·intro w'
                          go_simp
                          with_reducible rfl
                         rotate_left
                         ·simp only [Act.put, List.setIfInBounds_toArray, List.set_cons_zero, List.set_cons_succ, i64_w, i32_w]
                          rfl
                         refine pure_ (i := 6) (N := some 147) (v := ?_) (a' := ?_) #[true, true, true, false, true, true, true, false, false, false, false, false, false, false] rfl rfl (any_of HT_.out (by kernel_rfl)) (fun _ _ _ h => h) (Or.inl ⟨by rfl, ?_⟩) ?_ ?_
                         rotate_left
                         ·intro w'
                          go_simp
                          with_reducible rfl
                         rotate_left
                         ·simp only [Act.put, List.setIfInBounds_toArray, List.set_cons_zero, List.set_cons_succ, i64_w, i32_w]
                          rfl
                         refine take_ (i := 3) (N := some 144) (v := ?_) (a' := ?_) #[true, true, true, true, true, true, true, false, false, false, false, false, false, false] rfl rfl (take_ofW HT_.out HW_.out (by kernel_rfl)) (fun _ _ _ h => h) (Or.inl ⟨by rfl, ?_⟩) hHeld ?_ ?_
                         rotate_left
                         ·rintro w' ⟨s0, s1⟩
                          go_simp
                          with_reducible rfl
                         rotate_left
                         ·simp only [Act.put, List.setIfInBounds_toArray, List.set_cons_zero, List.set_cons_succ, i64_w, i32_w]
                          rfl
                         refine take_ (i := 7) (N := some 148) (v := ?_) (a' := ?_) #[true, true, true, true, true, true, true, true, false, false, false, false, false, false] rfl rfl (take_ofW HT_.out HW_.out (by kernel_rfl)) (fun _ _ _ h => h) (Or.inl ⟨by rfl, ?_⟩) hHeld ?_ ?_
                         rotate_left
                         ·rintro w' ⟨s0, s1⟩
                          go_simp
                          with_reducible rfl
                         rotate_left
                         ·simp only [Act.put, List.setIfInBounds_toArray, List.set_cons_zero, List.set_cons_succ, i64_w, i32_w]
                          rfl
                         refine one_ (i := 8) (N := some 149) #[true, true, true, true, true, true, true, true, true, false, false, false, false, false] rfl rfl (one_of HT_.out (by kernel_rfl)) (by decide) (fun K hK => ?_)
                         refine goes_ Tryd.func28 (by kernel_rfl) rfl #[.slice A828_0 (rd_L5 t803 x132_4).length c828_0, .slice A829_0 (rd_L5 t807 x137_5).length c829_0] (by rfl) rfl rfl (by (try simp only [List.map_toArray, List.map_cons, List.map_nil]); first | done | rfl | (simp only [List.length_drop, List.length_take]; rfl)) ?_
                         with_reducible refine (poly_Mul.calls k5 (fun k_ => ((some k_ ≠ (.slice Ao30 t798.length co30 : Value).ownBlock ∧ (some k_ ≠ (.slice (some ad829) t807.length co51 : Value).ownBlock ∧ some k_ ≠ (v817 : Value).ownBlock)) ∧ some k_ ≠ (.slice (some ad828) t803.length co32 : Value).ownBlock)) _ _ (rd_L5 t803 x132_4) _ _ (rd_L5 t807 x137_5) t830 t833 _ ?side1 ?side2 ?side3 A57.out).mono ?_
                         (case side1 => exact HL828_0.out)
                         (case side2 => repeat (first | exact (by repeat (first | (with_reducible exact HR829_0.out) | (with_reducible refine Kd.C_alloc ?_ _) | (with_reducible refine Kd.C_drewN ?_ _) | (with_reducible refine Kd.C_drew ?_) | exact HR829_0.out)) | (with_reducible refine Kd.C_alloc ?_ _) | (with_reducible refine Kd.C_drewN ?_ _) | (with_reducible refine Kd.C_drew ?_)))
                         (case side3 => exact HC829_0.out)
                         rintro e w64 ⟨v831, rfl, ho0, hb⟩
                         have HS0_ := (hb.cell (World.block_lt_of_cell? _ _ (hHeld.1))).trans (hHeld.1)
                         have HS1_ := (hb.cell (World.block_lt_of_cell? _ _ (hHeld.2))).trans (hHeld.2)
                         refine ⟨_, rfl, ?_⟩
                         have n0_ := Aside0.mk (Kd.N_elder' (lN HO_9) (Kd.N_base ho0) hb)
                         have n1_ := Aside0.mk (Kd.N_elder' (lN HO_10) (Kd.N_base ho0) hb)
                         have n2_ := Aside0.mk (Kd.N_elder' (lN HO_13) (Kd.N_base ho0) hb)
                         have n3_ := Aside0.mk (Kd.N_elder' (lN HO_15) (Kd.N_base ho0) hb)
                         have n4_ := Aside0.mk (Kd.N_elder' (lN HO_19) (Kd.N_base ho0) hb)
                         have n5_ := Aside0.mk (Kd.V_elder' (lV HL828_0) (Kd.N_base ho0) hb)
                         have n6_ := Aside0.mk (Kd.V_elder' (lV HL829_0) (Kd.N_base ho0) hb)
                         have n7_ := Aside0.mk (Kd.N_lower (Kd.N_mono (ok' := fun k_ => some k_ ≠ (.slice Ao30 t798.length co30 : Value).ownBlock ∧ some k_ ≠ (.slice (some ad828) t803.length co32 : Value).ownBlock ∧ some k_ ≠ (.slice (some ad829) t807.length co51 : Value).ownBlock ∧ some k_ ≠ (v817 : Value).ownBlock) ho0 (fun k_ hk_ => ⟨Or.elim hk_ (fun hs_ => hs_.1.1) (fun hn_ => (Kd.fresh' (Kd.N_lt (lN HO_10)) k_ hn_)), Or.elim hk_ (fun hs_ => hs_.2) (fun hn_ => (Kd.fresh' (Kd.N_lt (lN HO_13)) k_ hn_)), Or.elim hk_ (fun hs_ => hs_.1.2.1) (fun hn_ => (Kd.fresh' (Kd.N_lt (lN HO_15)) k_ hn_)), Or.elim hk_ (fun hs_ => hs_.1.2.2) (fun hn_ => (Kd.fresh' (Kd.N_lt (lN HO_19)) k_ hn_))⟩)) (below_size (lB HB)))
                         have n8_ := Aside0.mk (Kd.C_below (by repeat (first | (with_reducible exact HR828_0.out) | (with_reducible refine Kd.C_alloc ?_ _) | (with_reducible refine Kd.C_drewN ?_ _) | (with_reducible refine Kd.C_drew ?_) | exact HR828_0.out)) hb)
                         have n9_ := Aside0.mk (Kd.C_below (by repeat (first | (with_reducible exact HR829_0.out) | (with_reducible refine Kd.C_alloc ?_ _) | (with_reducible refine Kd.C_drewN ?_ _) | (with_reducible refine Kd.C_drew ?_) | exact HR829_0.out)) hb)
                         have n10_ := Aside0.mk (below_step (lB HB) hb)
                         clear HO_9
                         clear HO_10
                         clear HO_13
                         clear HO_15
                         clear HO_19
                         clear HL828_0
                         clear HL829_0
                         clear HR828_0
                         clear HR829_0
                         clear HB
                         have HO_9 := n0_
                         have HO_10 := n1_
                         have HO_13 := n2_
                         have HO_15 := n3_
                         have HO_19 := n4_
                         have HL828_0 := n5_
                         have HL829_0 := n6_
                         have HO832 := n7_
                         have HR828_0 := n8_
                         have HR829_0 := n9_
                         have HB := n10_
                         clear n0_ n1_ n2_ n3_ n4_ n5_ n6_ n7_ n8_ n9_ n10_
                         (try clear hb)
                         (try clear hb2)
                         (try clear hk)
                         (try clear hi)
                         (try clear ho0)
                         refine hK.out _ _ ⟨HS0_, HS1_⟩ (fun hHeld => ?_)
                         clear hK K
                         refine norm_ (a' := ?_) ?_ ?_
                         rotate_left
                         ·show Act.put _ (some 149) _ = _
                          simp only [Act.put, List.setIfInBounds_toArray, List.set_cons_zero, List.set_cons_succ, i64_w, i32_w]
                          rfl
                         refine pure_ (i := 9) (N := some 140) (v := ?_) (a' := ?_) #[true, true, true, true, true, true, true, true, true, true, false, false, false, false] rfl rfl (any_of HT_.out (by kernel_rfl)) (fun _ _ _ h => h) (Or.inl ⟨by rfl, ?_⟩) ?_ ?_
                         rotate_left
                         ·intro w'
                          go_simp
                          with_reducible rfl
                         rotate_left
                         ·simp only [Act.put, List.setIfInBounds_toArray, List.set_cons_zero, List.set_cons_succ, i64_w, i32_w]
                          rfl
                         refine pure_ (i := 10) (N := some 150) (v := ?_) (a' := ?_) #[true, true, true, true, true, true, true, true, true, true, true, false, false, false] rfl rfl (any_of HT_.out (by kernel_rfl)) (fun _ _ _ h => h) (Or.inl ⟨by rfl, ?_⟩) ?_ ?_
                         rotate_left
                         ·intro w'
                          go_simp
                          with_reducible rfl
                         rotate_left
                         ·simp only [Act.put, List.setIfInBounds_toArray, List.set_cons_zero, List.set_cons_succ, i64_w, i32_w]
                          rfl
                         refine pure_ (i := 11) (N := some 151) (v := ?_) (a' := ?_) #[true, true, true, true, true, true, true, true, true, true, true, true, false, false] rfl rfl (any_of HT_.out (by kernel_rfl)) (fun _ _ _ h => h) (Or.inl ⟨by rfl, ?_⟩) ?_ ?_
                         rotate_left
                         ·intro w'
                          go_simp
                          with_reducible rfl
                         rotate_left
                         ·simp only [Act.put, List.setIfInBounds_toArray, List.set_cons_zero, List.set_cons_succ, i64_w, i32_w]
                          rfl
                         refine pure_ (i := 12) (N := some 22) (v := ?_) (a' := ?_) #[true, true, true, true, true, true, true, true, true, true, true, true, true, false] rfl rfl (any_of HT_.out (by kernel_rfl)) (fun _ _ _ h => h) (Or.inl ⟨by rfl, ?_⟩) ?_ ?_
                         rotate_left
                         ·intro w'
                          go_simp
                          with_reducible rfl
                         rotate_left
                         ·simp only [Act.put, List.setIfInBounds_toArray, List.set_cons_zero, List.set_cons_succ, i64_w, i32_w]
                          rfl
                         refine pure_ (i := 13) (N := some 23) (v := ?_) (a' := ?_) #[true, true, true, true, true, true, true, true, true, true, true, true, true, true] rfl rfl (any_of HT_.out (by kernel_rfl)) (fun _ _ _ h => h) (Or.inl ⟨by rfl, ?_⟩) ?_ ?_
                         rotate_left
                         ·intro w'
                          go_simp
                          with_reducible rfl
                         rotate_left
                         ·simp only [Act.put, List.setIfInBounds_toArray, List.set_cons_zero, List.set_cons_succ, i64_w, i32_w]
                          rfl
                         refine done_ (done_of HT_.out (by kernel_rfl)) ?_
                         obtain ⟨Ao65, co65, eo65⟩ := Kd.N_slice HO_19.out
                         subst eo65
                         have p834 : 0 ≤ ((ji58) : Int) := of_decide_eq_true (by first | (with_reducible assumption) | assumption)
                         have q834 : (ji58) < (x19_5.length : Int) := of_decide_eq_true (by first | (with_reducible assumption) | assumption)
                         obtain ⟨ad834, A834_0, c834_0, e834, hx834_0, hl834_0, hi834_0⟩ := at_L5 (Kd.N_reads' HO_19.out).2.2 (ji58) p834 q834
                         cases e834
                         obtain ⟨ce834, hce834, hMe834, hcc834⟩ := Kd.N_get HO_19.out [] (ji58) p834 (by first | exact q834 | exact of_decide_eq_true (by first | (with_reducible assumption) | assumption) | (have e_ := (Kd.N_reads' HO_19.out).1; omega))
                         obtain ⟨ua834_0, uc834_0, rfl, ul834_0, ge834_0⟩ := Kd.FK_slice_open hMe834
                         have hv834_0 := hcc834 0 _ rfl
                         rw [Nat.add_zero, show ((Kd.slice 39 k39)).sz = 1 from rfl, Nat.mul_one] at hv834_0
                         replace hv834_0 := Option.some.inj (hv834_0.symm.trans hx834_0)
                         injection hv834_0 with hva_ hvn_ hvc_
                         rw [hva_] at ge834_0
                         rw [hvc_] at ul834_0
                         have HL834_0 := Aside0.mk (show Kd.V k39 39 _ w.heap.size _ _ (rd_L5 x19_5 (ji58)) from Kd.V_mk ul834_0 ge834_0)
                         clear hva_ hvn_ hvc_ ge834_0 ul834_0
                         clear hcc834 hce834
                         have HR834_0 := Aside0.mk hi834_0
                         have HC834_0 := Aside0.mk hl834_0
                         clear hi834_0 hl834_0
                         replace p834 := eq_true p834
                         replace q834 := eq_true q834
                         obtain ⟨Ao66, co66, eo66⟩ := Kd.N_slice HO832.out
                         subst eo66
                         try go_wp2_with (first | ((with_reducible refine gate_callee (f := 29) rfl ?_); refine goesL_ (some 163) rfl rfl Tryd.func29 (by kernel_rfl) rfl #[.slice A834_0 (rd_L5 x19_5 (ji58)).length c834_0, .slice Ao66 t830.length co66] rfl (by (try simp only [List.map_toArray, List.map_cons, List.map_nil]); first | done | (simp only [hji58]; rfl) | rfl | (simp only [List.length_drop, List.length_take]; rfl)) ?_; (with_reducible refine (poly_Add.calls k5 _ _ (rd_L5 x19_5 (ji58)) _ _ t830 t835 _ ?side1 ?side2 ?side3 ?side4 A61.out).mono ?_); (case side1 => repeat (first | exact (by repeat (first | (with_reducible exact HR834_0.out) | (with_reducible refine Kd.C_alloc ?_ _) | (with_reducible refine Kd.C_drewN ?_ _) | (with_reducible refine Kd.C_drew ?_) | exact HR834_0.out)) | (with_reducible refine Kd.C_alloc ?_ _) | (with_reducible refine Kd.C_drewN ?_ _) | (with_reducible refine Kd.C_drew ?_))); (case side2 => exact HC834_0.out); (case side3 => repeat (first | exact (Kd.N_reads' HO832.out).2.2 | (with_reducible refine Kd.C_alloc ?_ _) | (with_reducible refine Kd.C_drewN ?_ _) | (with_reducible refine Kd.C_drew ?_))); (case side4 => exact (Kd.N_reads' HO832.out).2.1); rintro e w67 ⟨v836, rfl, ho0, hb⟩; refine ⟨_, rfl, ?_⟩; have n0_ := Aside0.mk (Kd.N_elder' (lN HO_9) (Kd.N_base ho0) hb); have n1_ := Aside0.mk (Kd.N_elder' (lN HO_10) (Kd.N_base ho0) hb); have n2_ := Aside0.mk (Kd.N_elder' (lN HO_13) (Kd.N_base ho0) hb); have n3_ := Aside0.mk (Kd.N_elder' (lN HO_15) (Kd.N_base ho0) hb); have n4_ := Aside0.mk (Kd.N_elder' (lN HO_19) (Kd.N_base ho0) hb); have n5_ := Aside0.mk (Kd.V_elder' (lV HL828_0) (Kd.N_base ho0) hb); have n6_ := Aside0.mk (Kd.V_elder' (lV HL829_0) (Kd.N_base ho0) hb); have n7_ := Aside0.mk (Kd.N_elder' (lN HO832) (Kd.N_base ho0) hb); have n8_ := Aside0.mk (Kd.V_elder' (lV HL834_0) (Kd.N_base ho0) hb); have n9_ := Aside0.mk (Kd.N_lower (Kd.N_mono (ok' := fun k_ => some k_ ≠ (.slice Ao28 t795.length co28 : Value).ownBlock ∧ some k_ ≠ (.slice Ao30 t798.length co30 : Value).ownBlock ∧ some k_ ≠ (.slice (some ad828) t803.length co32 : Value).ownBlock ∧ some k_ ≠ (.slice (some ad829) t807.length co51 : Value).ownBlock ∧ some k_ ≠ (.slice (some ad834) x19_5.length co65 : Value).ownBlock ∧ some k_ ≠ (.slice Ao66 t830.length co66 : Value).ownBlock) ho0 (fun k_ hk_ => ⟨(Kd.fresh' (Kd.N_lt (lN HO_9)) k_ hk_), (Kd.fresh' (Kd.N_lt (lN HO_10)) k_ hk_), (Kd.fresh' (Kd.N_lt (lN HO_13)) k_ hk_), (Kd.fresh' (Kd.N_lt (lN HO_15)) k_ hk_), (Kd.fresh' (Kd.N_lt (lN HO_19)) k_ hk_), (Kd.fresh' (Kd.N_lt (lN HO832)) k_ hk_)⟩)) (below_size (lB HB))); have n10_ := Aside0.mk (Kd.C_below (by repeat (first | (with_reducible exact HR828_0.out) | (with_reducible refine Kd.C_alloc ?_ _) | (with_reducible refine Kd.C_drewN ?_ _) | (with_reducible refine Kd.C_drew ?_) | exact HR828_0.out)) hb); have n11_ := Aside0.mk (Kd.C_below (by repeat (first | (with_reducible exact HR829_0.out) | (with_reducible refine Kd.C_alloc ?_ _) | (with_reducible refine Kd.C_drewN ?_ _) | (with_reducible refine Kd.C_drew ?_) | exact HR829_0.out)) hb); have n12_ := Aside0.mk (Kd.C_below (by repeat (first | (with_reducible exact HR834_0.out) | (with_reducible refine Kd.C_alloc ?_ _) | (with_reducible refine Kd.C_drewN ?_ _) | (with_reducible refine Kd.C_drew ?_) | exact HR834_0.out)) hb); have n13_ := Aside0.mk (below_step (lB HB) hb); clear HO_9 HO_10 HO_13 HO_15 HO_19 HL828_0 HL829_0 HO832 HL834_0 HR828_0 HR829_0 HR834_0 HB; have HO_9 := n0_; have HO_10 := n1_; have HO_13 := n2_; have HO_15 := n3_; have HO_19 := n4_; have HL828_0 := n5_; have HL829_0 := n6_; have HO832 := n7_; have HL834_0 := n8_; have HO837 := n9_; have HR828_0 := n10_; have HR829_0 := n11_; have HR834_0 := n12_; have HB := n13_; clear n0_ n1_ n2_ n3_ n4_ n5_ n6_ n7_ n8_ n9_ n10_ n11_ n12_ n13_; (try clear hb); (try clear hb2); (try clear hk); (try clear hi); (try clear ho0); have p62 : 0 ≤ ((ji58) : Int) := of_decide_eq_true (by first | (with_reducible assumption) | assumption); have q62 : ((ji58) : Int) < ((x19_5.length : Int) : Int) := of_decide_eq_true (by first | (with_reducible assumption) | assumption); obtain ⟨go62, co62, eo62, gb62, gl62, cl62, HG62⟩ := Kd.N_form HO_19.out (by omega); (first | cases eo62 | (injection eo62 with ea_ en_ ec_; (first | subst ea_ | (injection ea_ with ea_; subst ea_)); subst ec_; clear en_)); have GB62 := Aside0.mk gb62; have GG62 := Aside0.mk HG62; clear gb62 gl62 HG62; (first | simp only [add_plain] at hx834_0 | skip); obtain ⟨ce62, hcl62, hM62, hcc62, hfr62⟩ := Kd.N_elem HO_19.out [] ((ji58) : Int) p62 q62; obtain ⟨ua62_0, uc62_0, rfl, ul62_0, ge62_0⟩ := Kd.FK_slice_open hM62; have hx62_0 := hcc62 0 _ rfl; have hf62_0 := hfr62 0; (try simp only [show ((Kd.slice 39 k39)).sz = 1 from rfl, Nat.mul_one, Nat.add_zero] at hx62_0); (try simp only [show ((Kd.slice 39 k39)).sz = 1 from rfl, Nat.mul_one, Nat.add_zero] at hf62_0); clear hcl62 hcc62 hfr62 hM62; replace p62 := eq_true p62; replace q62 := eq_true q62; have n_ := Aside0.mk (Kd.N_mono (ok' := (fun k_ => some k_ ≠ (.slice Ao28 t795.length co28 : Value).ownBlock ∧ some k_ ≠ (.slice Ao30 t798.length co30 : Value).ownBlock ∧ some k_ ≠ (.slice (some ad828) t803.length co32 : Value).ownBlock ∧ some k_ ≠ (.slice (some ad829) t807.length co51 : Value).ownBlock ∧ some k_ ≠ (.slice Ao66 t830.length co66 : Value).ownBlock ∧ some k_ ≠ (v836 : Value).ownBlock)) HO_19.out (fun k_ hk => ⟨hk.1.1.1, ⟨hk.1.1.2.1, ⟨hk.1.1.2.2.1, ⟨hk.1.1.2.2.2, ⟨hk.1.2, hk.2⟩⟩⟩⟩⟩)); clear HO_19; have HO_19 := n_; clear n_; obtain ⟨Ao70, co70, eo70⟩ := Kd.N_slice HO837.out; subst eo70; have HX68 := Aside0.mk (show Kd.N (Kd.slice 39 k39) 24 w67 w.heap.size (fun k_ => some k_ ≠ (.slice Ao28 t795.length co28 : Value).ownBlock ∧ some k_ ≠ (.slice Ao30 t798.length co30 : Value).ownBlock ∧ some k_ ≠ (.slice (some ad828) t803.length co32 : Value).ownBlock ∧ some k_ ≠ (.slice (some ad829) t807.length co51 : Value).ownBlock ∧ some k_ ≠ (.slice Ao66 t830.length co66 : Value).ownBlock) (.slice (some ⟨go62, 0, none⟩) x19_5.length co65) x19_5 from (by (with_reducible repeat (first | apply Kd.N_alloc | apply Kd.N_drewN | apply Kd.N_drew)); exact Kd.N_mono HO_19.out (fun _ hk => ⟨hk.1, ⟨hk.2.1, ⟨hk.2.2.1, ⟨hk.2.2.2.1, hk.2.2.2.2.1⟩⟩⟩⟩))); obtain ⟨ce68, hcl68, hM68, hcc68, hfr68⟩ := Kd.N_elem HX68.out [] ((ji58) : Int) (of_decide_eq_true (by first | (with_reducible assumption) | assumption)) (by have h_ : ((ji58) : Int) < ((x19_5.length : Int) : Int) := of_decide_eq_true (by first | (with_reducible assumption) | assumption); first | exact h_ | (have e_ := (Kd.N_reads' HO_19.out).1; omega) | simpa using h_); obtain ⟨ua68_0, uc68_0, rfl, ul68_0, ge68_0⟩ := Kd.FK_slice_open hM68; have HP68 := Kd.N_seg HX68.out ((ji58) : Int) (of_decide_eq_true (by first | (with_reducible assumption) | assumption)) (by have h_ : ((ji58) : Int) < ((x19_5.length : Int) : Int) := of_decide_eq_true (by first | (with_reducible assumption) | assumption); first | exact h_ | (have e_ := (Kd.N_reads' HO_19.out).1; omega) | simpa using h_) (seg := [.slice Ao70 t835.length co70]) (j := 0) hcl68 hcc68 (show 1 ≤ 1 from by decide) (x' := t835) (Kd.FK_slice_mk (Kd.N_reads' (Kd.N_mono (ok' := (fun k_ => ((fun k_ => some k_ ≠ (.slice Ao28 t795.length co28 : Value).ownBlock ∧ some k_ ≠ (.slice Ao30 t798.length co30 : Value).ownBlock ∧ some k_ ≠ (.slice (some ad828) t803.length co32 : Value).ownBlock ∧ some k_ ≠ (.slice (some ad829) t807.length co51 : Value).ownBlock ∧ some k_ ≠ (.slice Ao66 t830.length co66 : Value).ownBlock)) k_ ∧ k_ ≠ go62)) (HO837.out) (fun k_ hk => ⟨⟨hk.1, ⟨hk.2.1, ⟨hk.2.2.1, ⟨hk.2.2.2.1, hk.2.2.2.2.2⟩⟩⟩⟩, fun e_ => (hk.2.2.2.2.1) (by rw [e_]; rfl)⟩))).2.1 (Kd.N_F (Kd.N_mono (ok' := (fun k_ => ((fun k_ => some k_ ≠ (.slice Ao28 t795.length co28 : Value).ownBlock ∧ some k_ ≠ (.slice Ao30 t798.length co30 : Value).ownBlock ∧ some k_ ≠ (.slice (some ad828) t803.length co32 : Value).ownBlock ∧ some k_ ≠ (.slice (some ad829) t807.length co51 : Value).ownBlock ∧ some k_ ≠ (.slice Ao66 t830.length co66 : Value).ownBlock)) k_ ∧ k_ ≠ go62)) (HO837.out) (fun k_ hk => ⟨⟨hk.1, ⟨hk.2.1, ⟨hk.2.2.1, ⟨hk.2.2.2.1, hk.2.2.2.2.2⟩⟩⟩⟩, fun e_ => (hk.2.2.2.2.1) (by rw [e_]; rfl)⟩)))) (fun _ hk => hk); have hx68_0 := hcc68 0 _ rfl; (try simp only [show ((Kd.slice 39 k39)).sz = 1 from rfl, Nat.mul_one, Nat.add_zero] at hx68_0); have hf68_0 := hfr68 0; (try simp only [show ((Kd.slice 39 k39)).sz = 1 from rfl, Nat.mul_one, Nat.add_zero] at hf68_0); clear hcl68 hcc68 hfr68 hM68; (try simp only [show ((Kd.slice 39 k39)).sz = 1 from rfl, Nat.mul_one, Nat.add_zero] at HP68); (try simp only [show ((Kd.slice 39 k39)).sz = 1 from rfl, Nat.mul_one, Nat.add_zero] at HP68)) | ((with_reducible refine gate_store (t := 24) (p := 164) rfl ?_); refine store_event (t := 24) (p := 164) (v := ?vo_w69) (w1 := (w67.setCell ⟨go62, ((ji58) : Int).toNat, none⟩ (.slice Ao70 t835.length co70))) ?hg ?ho ?hn ?hr ?_; (case ho => rfl); (case hg => rfl); (case hn => rfl); (case hr => first | (go_simp; done) | (go_simp; rfl)); intro w69 hw; have hg : w67.grownBy w69 (some go62) := (by rw [hw]; exact HP68.2); have hp_ : Kd.N (Kd.slice 39 k39) 24 w69 w.heap.size (fun k_ => some k_ ≠ (.slice Ao28 t795.length co28 : Value).ownBlock ∧ some k_ ≠ (.slice Ao30 t798.length co30 : Value).ownBlock ∧ some k_ ≠ (.slice (some ad828) t803.length co32 : Value).ownBlock ∧ some k_ ≠ (.slice (some ad829) t807.length co51 : Value).ownBlock ∧ some k_ ≠ (.slice Ao66 t830.length co66 : Value).ownBlock) (.slice (some ⟨go62, 0, none⟩) x19_5.length co65) y838 := (by rw [hw, Ny838.out]; exact HP68.1); clear HP68; have n0_ := Aside0.mk (Kd.N_afterv (v := (.slice (some ⟨go62, 0, none⟩) x19_5.length co65)) (v1 := (.slice (some ⟨go62, 0, none⟩) x19_5.length co65)) (ok := (fun k_ => some k_ ≠ (.slice Ao30 t798.length co30 : Value).ownBlock ∧ some k_ ≠ (.slice (some ad828) t803.length co32 : Value).ownBlock ∧ some k_ ≠ (.slice (some ad829) t807.length co51 : Value).ownBlock ∧ some k_ ≠ (.slice Ao66 t830.length co66 : Value).ownBlock ∧ some k_ ≠ (.slice Ao70 t835.length co70 : Value).ownBlock)) (by (with_reducible repeat (first | apply Kd.N_alloc | apply Kd.N_drewN | apply Kd.N_drew)); exact Kd.N_mono HO_9.out (fun _ hk => ⟨⟨hk.1.1.1, ⟨hk.1.1.2.1, ⟨hk.1.1.2.2.1, ⟨hk.1.2, hk.2⟩⟩⟩⟩, hk.1.1.2.2.2⟩)) hg (.inl rfl)); have n1_ := Aside0.mk (Kd.N_afterv (v := (.slice (some ⟨go62, 0, none⟩) x19_5.length co65)) (v1 := (.slice (some ⟨go62, 0, none⟩) x19_5.length co65)) (ok := (fun k_ => some k_ ≠ (.slice Ao28 t795.length co28 : Value).ownBlock ∧ some k_ ≠ (.slice (some ad828) t803.length co32 : Value).ownBlock ∧ some k_ ≠ (.slice (some ad829) t807.length co51 : Value).ownBlock ∧ some k_ ≠ (.slice Ao66 t830.length co66 : Value).ownBlock ∧ some k_ ≠ (.slice Ao70 t835.length co70 : Value).ownBlock)) (by (with_reducible repeat (first | apply Kd.N_alloc | apply Kd.N_drewN | apply Kd.N_drew)); exact Kd.N_mono HO_10.out (fun _ hk => ⟨⟨hk.1.1.1, ⟨hk.1.1.2.1, ⟨hk.1.1.2.2.1, ⟨hk.1.2, hk.2⟩⟩⟩⟩, hk.1.1.2.2.2⟩)) hg (.inl rfl)); have n2_ := Aside0.mk (Kd.N_afterv (v := (.slice (some ⟨go62, 0, none⟩) x19_5.length co65)) (v1 := (.slice (some ⟨go62, 0, none⟩) x19_5.length co65)) (ok := (fun k_ => some k_ ≠ (.slice Ao30 t798.length co30 : Value).ownBlock ∧ some k_ ≠ (.slice (some ad829) t807.length co51 : Value).ownBlock ∧ some k_ ≠ (.slice Ao66 t830.length co66 : Value).ownBlock ∧ some k_ ≠ (.slice Ao70 t835.length co70 : Value).ownBlock)) (by (with_reducible repeat (first | apply Kd.N_alloc | apply Kd.N_drewN | apply Kd.N_drew)); exact Kd.N_mono HO_13.out (fun _ hk => ⟨⟨hk.1.1.1, ⟨hk.1.1.2.1, ⟨hk.1.2, hk.2⟩⟩⟩, hk.1.1.2.2⟩)) hg (.inl rfl)); have n3_ := Aside0.mk (Kd.N_afterv (v := (.slice (some ⟨go62, 0, none⟩) x19_5.length co65)) (v1 := (.slice (some ⟨go62, 0, none⟩) x19_5.length co65)) (ok := (fun k_ => some k_ ≠ (.slice Ao28 t795.length co28 : Value).ownBlock ∧ some k_ ≠ (.slice (some ad828) t803.length co32 : Value).ownBlock ∧ some k_ ≠ (.slice Ao66 t830.length co66 : Value).ownBlock ∧ some k_ ≠ (.slice Ao70 t835.length co70 : Value).ownBlock)) (by (with_reducible repeat (first | apply Kd.N_alloc | apply Kd.N_drewN | apply Kd.N_drew)); exact Kd.N_mono HO_15.out (fun _ hk => ⟨⟨hk.1.1.1, ⟨hk.1.1.2.1, ⟨hk.1.2, hk.2⟩⟩⟩, hk.1.1.2.2⟩)) hg (.inl rfl)); have n4_ := Aside0.mk (hp_); have n5_ := Aside0.mk (Kd.V_afterv (v := (.slice (some ⟨go62, 0, none⟩) x19_5.length co65)) (v1 := (.slice (some ⟨go62, 0, none⟩) x19_5.length co65)) (ok := (fun k_ => some k_ ≠ (.slice Ao30 t798.length co30 : Value).ownBlock ∧ some k_ ≠ (.slice (some ad828) t803.length co32 : Value).ownBlock ∧ some k_ ≠ (.slice (some ad829) t807.length co51 : Value).ownBlock ∧ some k_ ≠ (.slice Ao66 t830.length co66 : Value).ownBlock ∧ some k_ ≠ (.slice Ao70 t835.length co70 : Value).ownBlock)) (by (with_reducible repeat (first | apply Kd.V_alloc | apply Kd.V_drewN | apply Kd.V_drew)); exact Kd.V_mono HL828_0.out (fun _ hk => ⟨⟨hk.1.1.1.1, ⟨hk.1.1.2, ⟨hk.1.1.1.2.1, ⟨hk.1.2, hk.2⟩⟩⟩⟩, hk.1.1.1.2.2⟩)) hg (.inl rfl)); have n6_ := Aside0.mk (Kd.V_afterv (v := (.slice (some ⟨go62, 0, none⟩) x19_5.length co65)) (v1 := (.slice (some ⟨go62, 0, none⟩) x19_5.length co65)) (ok := (fun k_ => some k_ ≠ (.slice Ao28 t795.length co28 : Value).ownBlock ∧ some k_ ≠ (.slice (some ad828) t803.length co32 : Value).ownBlock ∧ some k_ ≠ (.slice (some ad829) t807.length co51 : Value).ownBlock ∧ some k_ ≠ (.slice Ao66 t830.length co66 : Value).ownBlock ∧ some k_ ≠ (.slice Ao70 t835.length co70 : Value).ownBlock)) (by (with_reducible repeat (first | apply Kd.V_alloc | apply Kd.V_drewN | apply Kd.V_drew)); exact Kd.V_mono HL829_0.out (fun _ hk => ⟨⟨hk.1.1.1.1, ⟨hk.1.1.1.2.1, ⟨hk.1.1.2, ⟨hk.1.2, hk.2⟩⟩⟩⟩, hk.1.1.1.2.2⟩)) hg (.inl rfl)); have n7_ := Aside0.mk (Kd.N_afterv (v := (.slice (some ⟨go62, 0, none⟩) x19_5.length co65)) (v1 := (.slice (some ⟨go62, 0, none⟩) x19_5.length co65)) (ok := (fun k_ => some k_ ≠ (.slice Ao30 t798.length co30 : Value).ownBlock ∧ some k_ ≠ (.slice (some ad828) t803.length co32 : Value).ownBlock ∧ some k_ ≠ (.slice (some ad829) t807.length co51 : Value).ownBlock ∧ some k_ ≠ (.slice Ao70 t835.length co70 : Value).ownBlock)) (by (with_reducible repeat (first | apply Kd.N_alloc | apply Kd.N_drewN | apply Kd.N_drew)); exact Kd.N_mono HO832.out (fun _ hk => ⟨⟨hk.1.1, ⟨hk.1.2.1, ⟨hk.1.2.2.1, hk.2⟩⟩⟩, hk.1.2.2.2⟩)) hg (.inl rfl)); have n8_ := Aside0.mk (Kd.V_afterv (v := (.slice (some ⟨go62, 0, none⟩) x19_5.length co65)) (v1 := (.slice (some ⟨go62, 0, none⟩) x19_5.length co65)) (ok := (fun k_ => some k_ ≠ (.slice Ao28 t795.length co28 : Value).ownBlock ∧ some k_ ≠ (.slice Ao30 t798.length co30 : Value).ownBlock ∧ some k_ ≠ (.slice (some ad828) t803.length co32 : Value).ownBlock ∧ some k_ ≠ (.slice (some ad829) t807.length co51 : Value).ownBlock ∧ some k_ ≠ (.slice Ao66 t830.length co66 : Value).ownBlock ∧ some k_ ≠ (.slice Ao70 t835.length co70 : Value).ownBlock)) (by (with_reducible repeat (first | apply Kd.V_alloc | apply Kd.V_drewN | apply Kd.V_drew)); exact Kd.V_mono HL834_0.out (fun _ hk => ⟨⟨hk.1.1.1.1, ⟨hk.1.1.1.2.1, ⟨hk.1.1.1.2.2.1, ⟨hk.1.1.1.2.2.2, ⟨hk.1.1.2, hk.2⟩⟩⟩⟩⟩, hk.1.2⟩)) hg (.inl rfl)); have n9_ := Aside0.mk ((by rw [hw]; exact below_set (HB.out) GB62.out : Below w.heap.size w w69)); clear HO_9 HO_10 HO_13 HO_15 HO_19 HL828_0 HL829_0 HO832 HL834_0 HB HO837; have HO_9 := n0_; have HO_10 := n1_; have HO_13 := n2_; have HO_15 := n3_; have HO_19 := n4_; have HL828_0 := n5_; have HL829_0 := n6_; have HO832 := n7_; have HL834_0 := n8_; have HB := n9_; clear n0_ n1_ n2_ n3_ n4_ n5_ n6_ n7_ n8_ n9_; clear hg hw hp_))
                         go_roundg k5
                         case measure => have := HJ6.out; have := HJ13.out; have := HJ26.out; have := HK4.out; have := HK5.out; omega
                         case rel => exact ⟨(y838), (wrap64 (x137_5 + 1)), (by first | rfl | (simp; done) | (simp [*]; done)), H', ⟨by have := HJ6.out; have := HJ13.out; have := HJ26.out; have := HK4.out; have := HK5.out; omega⟩, ⟨by (with_reducible repeat (first | apply Kd.N_alloc | apply Kd.N_drewN | apply Kd.N_drew)); exact Kd.N_mono HO_9.out (fun _ hk => ⟨hk.1.1, ⟨hk.1.2.1, ⟨hk.1.2.2.1, hk.2⟩⟩⟩)⟩, ⟨by (with_reducible repeat (first | apply Kd.N_alloc | apply Kd.N_drewN | apply Kd.N_drew)); exact Kd.N_mono HO_10.out (fun _ hk => ⟨hk.1.1, ⟨hk.1.2.1, ⟨hk.1.2.2.1, hk.2⟩⟩⟩)⟩, ⟨by (with_reducible repeat (first | apply Kd.N_alloc | apply Kd.N_drewN | apply Kd.N_drew)); exact Kd.N_mono HO_13.out (fun _ hk => ⟨hk.1.1, ⟨hk.1.2.1, hk.2⟩⟩)⟩, ⟨by (with_reducible repeat (first | apply Kd.N_alloc | apply Kd.N_drewN | apply Kd.N_drew)); exact Kd.N_mono HO_15.out (fun _ hk => ⟨hk.1.1, ⟨hk.1.2.1, hk.2⟩⟩)⟩, ⟨by (with_reducible repeat (first | apply Kd.N_alloc | apply Kd.N_drewN | apply Kd.N_drew)); exact Kd.N_mono HO_19.out (fun _ hk => ⟨hk.1, ⟨hk.2.1, ⟨hk.2.2.1, hk.2.2.2.1⟩⟩⟩)⟩, ⟨by repeat (first | (with_reducible first | exact HB.out | apply below_alloc | apply pw_below_drewN | apply below_drew1) | exact HB.out)⟩⟩
                        ·rw [if_neg c60] at H
                         exact absurd H (by simp)
                       ·rw [if_neg c59] at H
                        exact absurd H (by simp)
                      ·rw [if_neg c56] at H
                       exact absurd H (by simp)
                     ·rw [if_neg c55] at H
                      exact absurd H (by simp)
                    ·rw [if_neg c54] at H
                     exact absurd H (by simp)
                   ·rw [if_neg c53] at H
                    exact absurd H (by simp)
                  ·rw [if_neg c52] at H
                   have c52b0 : decide (x137_5 < (t807.length : Int)) = false := decide_eq_false c52
                   clear c52
                   have H' := Aside0.mk H
                   clear H
                   go_wp2
                   go_roundg k5
                   case measure => have := HJ6.out; have := HJ13.out; have := HJ26.out; have := HK4.out; have := HK5.out; omega
                   case rel => exact ⟨(x19_5), (wrap64 (x132_4 + 1)), (by first | rfl | (simp; done) | (simp [*]; done)), H', ⟨by have := HJ6.out; have := HJ13.out; have := HJ26.out; have := HK4.out; have := HK5.out; omega⟩, ⟨by (with_reducible repeat (first | apply Kd.N_alloc | apply Kd.N_drewN | apply Kd.N_drew)); exact HO_9.out⟩, ⟨by (with_reducible repeat (first | apply Kd.N_alloc | apply Kd.N_drewN | apply Kd.N_drew)); exact HO_10.out⟩, ⟨by (with_reducible repeat (first | apply Kd.N_alloc | apply Kd.N_drewN | apply Kd.N_drew)); exact HO_13.out⟩, ⟨by (with_reducible repeat (first | apply Kd.N_alloc | apply Kd.N_drewN | apply Kd.N_drew)); exact HO_15.out⟩, ⟨by (with_reducible repeat (first | apply Kd.N_alloc | apply Kd.N_drewN | apply Kd.N_drew)); exact HO_19.out⟩, ⟨by repeat (first | (with_reducible first | exact HB.out | apply below_alloc | apply pw_below_drewN | apply below_drew1) | exact HB.out)⟩⟩
               ·rw [if_neg c50] at H
                have c50b0 : decide (x132_4 < (t803.length : Int)) = false := decide_eq_false c50
                clear c50
                replace H := Option.bind_eq_some_iff.mp H
                obtain ⟨⟨t819, t822⟩, A710, H⟩ := H
                replace H : ((split_Join.f k4 x19_4 t801 (t819.length : Int)).bind fun bt823 => (if bt823.2 = 0 then ((swagelaw21_alike.f k4 bt823.1 t819).bind fun t827 => (some t827)) else (some false))) = some r := H
                have A71 := Aside0.mk A710
                clear A710
                replace H := Option.bind_eq_some_iff.mp H
                obtain ⟨⟨t823, t826⟩, A720, H⟩ := H
                replace H : (if t826 = 0 then ((swagelaw21_alike.f k4 t823 t819).bind fun t827 => (some t827)) else (some false)) = some r := H
                have A72 := Aside0.mk A720
                clear A720
                by_cases c73 : t826 = 0
                ·rw [if_pos c73] at H
                 have c73b0 : (t826 == 0) = true := beq_iff_eq.mpr c73
                 have c73b1 : (t826 != 0) = false := bne_eq_false_iff_eq.mpr c73
                 clear c73
                 replace H := Option.bind_eq_some_iff.mp H
                 obtain ⟨t827, A740, H⟩ := H
                 replace H : (some t827) = some r := H
                 have A74 := Aside0.mk A740
                 clear A740
                 obtain rfl := Option.some.inj H
                 go_wp2_with (first | ((with_reducible refine gate_callee (f := 28) rfl ?_); refine goesL_ (some 170) rfl rfl Tryd.func28 (by kernel_rfl) rfl #[.slice Ao28 t795.length co28, .slice Ao30 t798.length co30] rfl (by (try simp only [List.map_toArray, List.map_cons, List.map_nil]); first | done | rfl | (simp only [List.length_drop, List.length_take]; rfl)) ?_; (with_reducible refine (poly_Mul.calls k4 (fun k_ => (some k_ ≠ (.slice Ao30 t798.length co30 : Value).ownBlock ∧ (some k_ ≠ (.slice Ao32 t803.length co32 : Value).ownBlock ∧ (some k_ ≠ (v808 : Value).ownBlock ∧ some k_ ≠ (v817 : Value).ownBlock)))) _ _ t795 _ _ t798 t819 t822 _ ?side1 ?side2 ?side3 A71.out).mono ?_); (case side1 => exact Kd.N_V (HO_9.out)); (case side2 => repeat (first | exact (Kd.N_reads' HO_10.out).2.2 | (with_reducible refine Kd.C_alloc ?_ _) | (with_reducible refine Kd.C_drewN ?_ _) | (with_reducible refine Kd.C_drew ?_))); (case side3 => exact (Kd.N_reads' HO_10.out).2.1); rintro e w75 ⟨v820, rfl, ho0, hb⟩; refine ⟨_, rfl, ?_⟩; have n0_ := Aside0.mk (Kd.N_elder' (lN HO_9) (Kd.N_base ho0) hb); have n1_ := Aside0.mk (Kd.N_elder' (lN HO_10) (Kd.N_base ho0) hb); have n2_ := Aside0.mk (Kd.N_elder' (lN HO_13) (Kd.N_base ho0) hb); have n3_ := Aside0.mk (Kd.N_elder' (lN HO_15) (Kd.N_base ho0) hb); have n4_ := Aside0.mk (Kd.N_elder' (lN HO_19) (Kd.N_base ho0) hb); have n5_ := Aside0.mk (Kd.N_lower (Kd.N_mono (ok' := fun k_ => some k_ ≠ (.slice Ao30 t798.length co30 : Value).ownBlock ∧ some k_ ≠ (.slice Ao32 t803.length co32 : Value).ownBlock ∧ some k_ ≠ (v808 : Value).ownBlock ∧ some k_ ≠ (v817 : Value).ownBlock) ho0 (fun k_ hk_ => ⟨Or.elim hk_ (fun hs_ => hs_.1) (fun hn_ => (Kd.fresh' (Kd.N_lt (lN HO_10)) k_ hn_)), Or.elim hk_ (fun hs_ => hs_.2.1) (fun hn_ => (Kd.fresh' (Kd.N_lt (lN HO_13)) k_ hn_)), Or.elim hk_ (fun hs_ => hs_.2.2.1) (fun hn_ => (Kd.fresh' (Kd.N_lt (lN HO_15)) k_ hn_)), Or.elim hk_ (fun hs_ => hs_.2.2.2) (fun hn_ => (Kd.fresh' (Kd.N_lt (lN HO_19)) k_ hn_))⟩)) (below_size (lB HB))); have n6_ := Aside0.mk (below_step (lB HB) hb); clear HO_9 HO_10 HO_13 HO_15 HO_19 HB; have HO_9 := n0_; have HO_10 := n1_; have HO_13 := n2_; have HO_15 := n3_; have HO_19 := n4_; have HO821 := n5_; have HB := n6_; clear n0_ n1_ n2_ n3_ n4_ n5_ n6_; (try clear hb); (try clear hb2); (try clear hk); (try clear hi); (try clear ho0); obtain ⟨Ao76, co76, eo76⟩ := Kd.N_slice HO821.out; subst eo76; obtain ⟨Ao77, co77, eo77⟩ := Kd.N_slice HO_19.out; subst eo77) | ((with_reducible refine gate_callee (f := 18) rfl ?_); refine goesL_ (some 178) rfl rfl Tryd.func18 (by kernel_rfl) rfl #[.slice Ao77 x19_4.length co77, .int .i64 t801, .int .i64 (t819.length : Int)] rfl (by (try simp only [List.map_toArray, List.map_cons, List.map_nil]); first | done | rfl | (simp only [List.length_drop, List.length_take]; rfl)) ?_; (with_reducible refine (split_Join.calls k4 _ _ x19_4 t801 (t819.length : Int) t823 t826 _ ?side1 ?side2 A72.out).mono ?_); (case side1 => repeat (first | exact (Kd.N_reads' HO_19.out).2.2 | (with_reducible refine Kd.C_alloc ?_ _) | (with_reducible refine Kd.C_drewN ?_ _) | (with_reducible refine Kd.C_drew ?_))); (case side2 => exact (Kd.N_reads' HO_19.out).2.1); rintro e w78 ⟨v824, rfl, ho0, hb⟩; refine ⟨_, rfl, ?_⟩; have n0_ := Aside0.mk (Kd.N_below (lN HO_9) hb); have n1_ := Aside0.mk (Kd.N_below (lN HO_10) hb); have n2_ := Aside0.mk (Kd.N_below (lN HO_13) hb); have n3_ := Aside0.mk (Kd.N_below (lN HO_15) hb); have n4_ := Aside0.mk (Kd.N_below (lN HO_19) hb); have n5_ := Aside0.mk (Kd.N_below (lN HO821) hb); have n6_ := Aside0.mk (Kd.V_lower (Kd.V_mono (ok' := fun k_ => some k_ ≠ (.slice Ao28 t795.length co28 : Value).ownBlock ∧ some k_ ≠ (.slice Ao30 t798.length co30 : Value).ownBlock ∧ some k_ ≠ (.slice Ao32 t803.length co32 : Value).ownBlock ∧ some k_ ≠ (v808 : Value).ownBlock ∧ some k_ ≠ (.slice Ao77 x19_4.length co77 : Value).ownBlock ∧ some k_ ≠ (.slice Ao76 t819.length co76 : Value).ownBlock) ho0 (fun k_ hk_ => ⟨(Kd.fresh' (Kd.N_lt (lN HO_9)) k_ hk_), (Kd.fresh' (Kd.N_lt (lN HO_10)) k_ hk_), (Kd.fresh' (Kd.N_lt (lN HO_13)) k_ hk_), (Kd.fresh' (Kd.N_lt (lN HO_15)) k_ hk_), (Kd.fresh' (Kd.N_lt (lN HO_19)) k_ hk_), (Kd.fresh' (Kd.N_lt (lN HO821)) k_ hk_)⟩)) (below_size (lB HB))); have n7_ := Aside0.mk (below_step (lB HB) hb); clear HO_9 HO_10 HO_13 HO_15 HO_19 HO821 HB; have HO_9 := n0_; have HO_10 := n1_; have HO_13 := n2_; have HO_15 := n3_; have HO_19 := n4_; have HO821 := n5_; have HO825 := n6_; have HB := n7_; clear n0_ n1_ n2_ n3_ n4_ n5_ n6_ n7_; (try clear hb); (try clear hb2); (try clear hk); (try clear hi); (try clear ho0); obtain ⟨Ao79, co79, eo79⟩ := Kd.V_slice HO825.out; subst eo79) | (go_at_call 27; (with_reducible refine (swagelaw21_alike.calls k4 _ _ t823 _ _ t819 t827 _ ?side1 ?side2 ?side3 ?side4 A74.out).mono ?_); (case side1 => repeat (first | exact (Kd.V_reads' HO825.out).2.2 | (with_reducible refine Kd.C_alloc ?_ _) | (with_reducible refine Kd.C_drewN ?_ _) | (with_reducible refine Kd.C_drew ?_))); (case side2 => exact (Kd.V_reads' HO825.out).2.1); (case side3 => repeat (first | exact (Kd.N_reads' HO821.out).2.2 | (with_reducible refine Kd.C_alloc ?_ _) | (with_reducible refine Kd.C_drewN ?_ _) | (with_reducible refine Kd.C_drew ?_))); (case side4 => exact (Kd.N_reads' HO821.out).2.1); rintro e w80 ⟨rfl, hb⟩; have n0_ := Aside0.mk (Kd.N_below (lN HO_9) hb); have n1_ := Aside0.mk (Kd.N_below (lN HO_10) hb); have n2_ := Aside0.mk (Kd.N_below (lN HO_13) hb); have n3_ := Aside0.mk (Kd.N_below (lN HO_15) hb); have n4_ := Aside0.mk (Kd.N_below (lN HO_19) hb); have n5_ := Aside0.mk (Kd.N_below (lN HO821) hb); have n6_ := Aside0.mk (Kd.V_below (lV HO825) hb); have n7_ := Aside0.mk (below_step (lB HB) hb); clear HO_9 HO_10 HO_13 HO_15 HO_19 HO821 HO825 HB; have HO_9 := n0_; have HO_10 := n1_; have HO_13 := n2_; have HO_15 := n3_; have HO_19 := n4_; have HO821 := n5_; have HO825 := n6_; have HB := n7_; clear n0_ n1_ n2_ n3_ n4_ n5_ n6_ n7_; (try clear hb); (try clear hb2); (try clear hk); (try clear hi)))
                 go_ret
                 exact ⟨by first | rfl | (simp [errW_none, errW_some] <;> rfl) | (simp only [← hji45]; first | rfl | (simp [errW_none, errW_some] <;> rfl)) | (simp [*, errW_none, errW_some] <;> rfl), by repeat (first | (with_reducible first | exact HB.out | apply below_alloc | apply pw_below_drewN | apply below_drew1) | exact HB.out)⟩
                ·rw [if_neg c73] at H
                 have c73b0 : (t826 == 0) = false := beq_eq_false_iff_ne.mpr c73
                 have c73b1 : (t826 != 0) = true := bne_iff_ne.mpr c73
                 obtain rfl := Option.some.inj H
                 exact absurd hT.out (by simp)
            ·rw [if_neg c47] at H
             exact absurd H (by simp)
           ·rw [if_neg c46] at H
            exact absurd H (by simp)
 ·replace c6 := Bool.eq_false_iff.mpr c6
  subst c6
  have H1 : (some false) = some r := by rw [if_neg (show ¬ (false = true) by decide)] at H; exact H
  clear H
  have H := H1
  clear H1
  obtain rfl := Option.some.inj H
  exact absurd hT.out (by simp)

/-- THE ONE PURE STATEMENT of swagelaw21_SplitLaid: yours. -/
def swagelaw21_SplitLaid.Pure : Prop := ∀ (l0 : List Int) (l1 : List Int) (a2 : Int) (a3 : Int), l0.length ≤ maxLen → l0.length * 8 ≤ 140737488351232 → (∀ x ∈ l0, (Lit.int .i64 x).wf = true) → l1.length ≤ maxLen → l1.length * 8 ≤ 140737488351232 → (∀ x ∈ l1, (Lit.int .i64 x).wf = true) → (Lit.int .i64 a2).wf = true → (Lit.int .i64 a3).wf = true → ∃ k, swagelaw21_SplitLaid.f k l0 l1 a2 a3 = some true
end Go.Proofs.YtakmkhokbcjapaaDoor.XA
end

section
/- Arguments opened by their kinds: what is read as data at a type is a Lean value of that type's kind. Of every seat alike; its own words alone. -/
namespace Go.Proofs.YtakmkhokbcjapaaDoor.Opn
open Go.ChangeShapes Go.WideShapes Go.Proofs.YtakmkhokbcjapaaDoorW.PrintWords
set_option linter.unusedVariables false

/-- Whatever is read at type t is of kind d, and wf. -/
structure Opn {α : Type} (P : Program) (t : TypeId) (d : Kd α) (wf : α → Prop) : Prop where
  get : ∀ {H : Type} {enc : TypeId × Value → H} {w : World} {base : Nat} {spare : Nat → Bool} {held : Bool} {fuel : Nat} {cs : List Value} {x : DataW H × List MemPlace},
    DataW.trod enc P w base spare held fuel t cs = some x → (∀ n ∈ DataW.weights P t x.1, n ≤ reachBytes) → ∃ a : α, d.K w a cs ∧ wf a

section
variable {P : Program} {t : TypeId}
theorem opn_int {k : IntKind} (ht : P.underlying t = some (.int k)) : Opn P t (Kd.int k) (fun n => (Lit.int k n).wf = true) :=
  ⟨fun h _ => by
    obtain ⟨n, rfl, rfl, hw⟩ := DataW.trod_int ht h
    exact ⟨n, rfl, hw⟩⟩
theorem choose_list {α : Type} {Q : Nat → α → Prop} : ∀ n : Nat, (∀ i, i < n → ∃ x, Q i x) → ∃ xs : List α, xs.length = n ∧ ∀ i x, xs[i]? = some x → Q i x := by
  intro n h
  induction n with
  | zero => exact ⟨[], rfl, fun i x hx => by simp at hx⟩
  | succ n ih =>
    obtain ⟨xs, hl, hq⟩ := ih (fun i hi => h i (by omega))
    obtain ⟨y, hy⟩ := h n (by omega)
    refine ⟨xs ++ [y], by simp [hl], fun i x hx => ?_⟩
    by_cases hi : i < n
    · rw [List.getElem?_append_left (by omega)] at hx
      exact hq i x hx
    · rw [List.getElem?_append_right (by omega)] at hx
      have : i = n := by
        have := (List.getElem?_eq_some_iff.1 hx).1
        simp at this
        omega
      subst this
      rw [hl, Nat.sub_self] at hx
      simp at hx
      subst hx
      exact hy

theorem opn_slice {α : Type} {e : TypeId} {d : Kd α} {wf : α → Prop} {B : Nat} (ht : P.underlying t = some (.slice e)) (hC : P.cellsOf e = d.sz) (hB : P.bytesOf e = B) (ho : Opn P e d wf) :
    Opn P t (Kd.slice e d) (fun xs => xs.length * B ≤ 140737488351232 ∧ xs.length ≤ 9223372036854775807 ∧ ∀ x ∈ xs, wf x) :=
  ⟨fun {H enc w base spare held fuel cs x} h hz => by
    rcases DataW.trod_slice ht h with ⟨rfl, rfl⟩ | ⟨a, len, cap, elems, rest, n, rfl, rfl, rfl, hb, hl, hm, hlen, hel, _, _⟩
    · refine ⟨[], ⟨none, 0, rfl, by simp, Kd.C_nil d w⟩, by simp⟩
    · have hw : ∀ n ∈ DataW.weightsAll P e (elems.map (·.1)), n ≤ reachBytes := fun n hn => hz n (by simp only [DataW.weights, ht]; exact List.mem_cons_of_mem _ (List.mem_append_left _ hn))
      have hwi : ∀ (i : Nat) (y : DataW H × List MemPlace), elems[i]? = some y → ∀ n ∈ DataW.weights P e y.1, n ≤ reachBytes := by
        have : ∀ (l : List (DataW H)) (d : DataW H), d ∈ l → ∀ n ∈ DataW.weights P e d, n ∈ DataW.weightsAll P e l := by
          intro l
          induction l with
          | nil => intro d hd; simp at hd
          | cons z l ih =>
            intro d hd n hn
            simp only [DataW.weightsAll, List.mem_append]
            rcases List.mem_cons.1 hd with rfl | hd
            · exact Or.inl hn
            · exact Or.inr (ih d hd n hn)
        intro i y hy n hn
        exact hw n (this _ y.1 (List.mem_map.2 ⟨y, List.mem_of_getElem? hy, rfl⟩) n hn)
      have hx : ∀ i, i < len → ∃ x : α, (∃ c, c.length = d.sz ∧ d.K w x c ∧ ∀ j u, c[j]? = some u → w.cell? (a.add (i * d.sz + j)) = some u) ∧ wf x := by
        intro i hi
        have h1 := hel i hi
        rw [List.getElem?_eq_getElem (by omega)] at h1
        obtain ⟨c, hc, hd⟩ := Option.bind_eq_some_iff.1 h1
        obtain ⟨x, hK, hwf⟩ := ho.get hd (hwi i _ (List.getElem?_eq_getElem (by omega)))
        obtain ⟨_, hcl, hcell⟩ := World.cells?_some hc
        refine ⟨x, ⟨c, by rw [hcl, hC], hK, fun j u hj => ?_⟩, hwf⟩
        have hj' : j < P.cellsOf e := by rw [← hcl]; exact (List.getElem?_eq_some_iff.1 hj).1
        rw [← hC, ← add_add, hcell j hj', hj]
      obtain ⟨xs, hxl, hq⟩ := choose_list len hx
      refine ⟨xs, ⟨some a, cap, by rw [hxl], by omega, ?_⟩, ?_, by unfold maxLen at hm; omega, fun x hx => ?_⟩
      · refine ⟨rfl, by unfold maxLen at hm; omega, fun _ => ⟨a, rfl, fun j p hj => ?_⟩⟩
        exact (hq j p hj).1
      · have := hz ((elems.map (·.1)).length + (rest.map (·.1)).length |> (· * P.bytesOf e)) (by simp only [DataW.weights, ht]; exact List.mem_cons_self)
        simp only [List.length_map, hB] at this
        rw [hxl, ← hlen]
        exact Nat.le_trans (Nat.mul_le_mul_right _ (Nat.le_add_right _ _)) this
      · obtain ⟨i, hi⟩ := List.mem_iff_getElem?.1 hx
        exact (hq i x hi).2⟩

/-- The fields of a struct, from offset off on. -/
structure OpnFs {α : Type} (P : Program) (fs : List Field) (off : Nat) (d : Kd α) (wf : α → Prop) : Prop where
  get : ∀ {H : Type} {enc : TypeId × Value → H} {w : World} {base : Nat} {spare : Nat → Bool} {held : Bool} {fuel : Nat} {cs : List Value} {xs : List (DataW H × List MemPlace)},
    cs.length = off + d.sz → xs.length = fs.length →
    (∀ (i : Nat) (f : Field), fs[i]? = some f → DataW.trod enc P w base spare held fuel f.type ((cs.drop f.offset).take (P.cellsOf f.type)) = xs[i]?) →
    (∀ n ∈ DataW.weightsEach P (fs.map (·.type)) (xs.map (·.1)), n ≤ reachBytes) → ∃ a : α, d.K w a (cs.drop off) ∧ wf a

end

section
variable {H : Type} {enc : TypeId × Value → H} {P : Program} {w : World} {base : Nat} {spare : Nat → Bool} {held : Bool} {t : TypeId}
theorem opened {α : Type} {d : Kd α} {wf : α → Prop} (ho : Opn P t d wf) {v : Value} {dd : DataW H} {ps : List MemPlace} {ts : List TypeId} {ds : List (DataW H)} {j : Nat}
    (hsz : (DataW.weightsEach P ts ds).all (· ≤ reachBytes) = true) (ht : ts[j]? = some t) (hd : ds[j]? = some dd) (h : DataW.Trod enc P w base spare held t v dd ps) : ∃ a : α, d.K w a v.cells.toList ∧ wf a := by
  obtain ⟨fuel, hf⟩ := h
  exact ho.get hf (fun n hn => by simpa using List.all_eq_true.1 hsz n (DataW.weights_mem_each ht hd n hn))
theorem trod_lt {v : Value} {d : DataW H} {ps : List MemPlace} (h : DataW.Trod enc P w base spare held t v d ps) : ∀ x ∈ ps, x.block < w.heap.size := by
  obtain ⟨m, hm⟩ := h
  exact DataW.trod_lt m _ _ _ hm
end
end Go.Proofs.YtakmkhokbcjapaaDoor.Opn
end

section
namespace Go.Proofs.YtakmkhokbcjapaaDoor.SaidSplitLaid
open Go.RowKit Go.Proofs.YtakmkhokbcjapaaDoorW.PrintWords Go.Proofs.YtakmkhokbcjapaaDoorW.PrintLast Go.Proofs.YtakmkhokbcjapaaDoor.Opn Go.Proofs.YtakmkhokbcjapaaDoor.XA
set_option linter.unusedVariables false
/-- THE PURE STATEMENT. -/
def Pure : Prop := ∀ (x0 : List Int) (x1 : List Int) (x2 : Int) (x3 : Int), (x0.length * 8 ≤ 140737488351232 ∧ x0.length ≤ 9223372036854775807 ∧ ∀ y ∈ x0, (Lit.int .i64 y).wf = true) → (x1.length * 8 ≤ 140737488351232 ∧ x1.length ≤ 9223372036854775807 ∧ ∀ y ∈ x1, (Lit.int .i64 y).wf = true) → (Lit.int .i64 x2).wf = true → (Lit.int .i64 x3).wf = true → ∃ k, swagelaw21_SplitLaid.f k x0 x1 x2 x3 = some true
end Go.Proofs.YtakmkhokbcjapaaDoor.SaidSplitLaid
end

section
namespace Go.Proofs.YtakmkhokbcjapaaDoor.XA
open Go.Proofs.YtakmkhokbcjapaaDoor.Lift Go.RowKit Go.Proofs.YtakmkhokbcjapaaDoorW.PrintWords Go.Proofs.YtakmkhokbcjapaaDoorW.PrintLast Go.Proofs.YtakmkhokbcjapaaDoorW.PrintMore
attribute [local go_sem] max2_int min2_int max_two min_two max_three min_three max_four min_four   -- for this text's walks alone
set_option linter.unusedVariables false
set_option linter.unusedSimpArgs false

/-! ### swagelaw21_SplitShort: function 5 -/
def swagelaw21_SplitShort.f (k : Nat) (a0 : Int) (a1 : Int) (a2 : Int) (a3 : Int) : Option (Bool) := (swagelaw21_works.f k).bind fun t557 => (if t557 = true then ((split_Block.f k a0 a1 a2 a3).bind fun bt558 => (if bt558.2 = 0 then (if a0 = 0 then (if a1 = 0 then (some (bt558.1 == 0)) else (if bt558.1 ≥ 1 then (if (wrap64 (a2 * bt558.1)) ≥ a0 then (if (wrap64 (a3 * bt558.1)) ≥ a1 then (if (wrap64 (a2 * (wrap64 (bt558.1 - 1)))) < a0 then (some true) else (some (decide ((wrap64 (a3 * (wrap64 (bt558.1 - 1)))) < a1)))) else (some false)) else (some false)) else (some false))) else (if bt558.1 ≥ 1 then (if (wrap64 (a2 * bt558.1)) ≥ a0 then (if (wrap64 (a3 * bt558.1)) ≥ a1 then (if (wrap64 (a2 * (wrap64 (bt558.1 - 1)))) < a0 then (some true) else (some (decide ((wrap64 (a3 * (wrap64 (bt558.1 - 1)))) < a1)))) else (some false)) else (some false)) else (some false))) else (some (bt558.2 == 2)))) else (some false))
/-- THE ONE PURE STATEMENT of swagelaw21_SplitShort: yours. -/
def swagelaw21_SplitShort.Pure : Prop := ∀ (a0 : Int) (a1 : Int) (a2 : Int) (a3 : Int), (Lit.int .i64 a0).wf = true → (Lit.int .i64 a1).wf = true → (Lit.int .i64 a2).wf = true → (Lit.int .i64 a3).wf = true → ∃ k, swagelaw21_SplitShort.f k a0 a1 a2 a3 = some true
end Go.Proofs.YtakmkhokbcjapaaDoor.XA
end

section
namespace Go.Proofs.YtakmkhokbcjapaaDoor.SaidSplitShort
open Go.RowKit Go.Proofs.YtakmkhokbcjapaaDoorW.PrintWords Go.Proofs.YtakmkhokbcjapaaDoorW.PrintLast Go.Proofs.YtakmkhokbcjapaaDoor.Opn Go.Proofs.YtakmkhokbcjapaaDoor.XA
set_option linter.unusedVariables false
/-- THE PURE STATEMENT. -/
def Pure : Prop := ∀ (x0 : Int) (x1 : Int) (x2 : Int) (x3 : Int), (Lit.int .i64 x0).wf = true → (Lit.int .i64 x1).wf = true → (Lit.int .i64 x2).wf = true → (Lit.int .i64 x3).wf = true → ∃ k, swagelaw21_SplitShort.f k x0 x1 x2 x3 = some true
end Go.Proofs.YtakmkhokbcjapaaDoor.SaidSplitShort
end

section
namespace Go.Proofs.YtakmkhokbcjapaaDoor.XA
open Go.Proofs.YtakmkhokbcjapaaDoor.Lift Go.RowKit Go.Proofs.YtakmkhokbcjapaaDoorW.PrintWords Go.Proofs.YtakmkhokbcjapaaDoorW.PrintLast Go.Proofs.YtakmkhokbcjapaaDoorW.PrintMore
attribute [local go_sem] max2_int min2_int max_two min_two max_three min_three max_four min_four   -- for this text's walks alone
set_option linter.unusedVariables false
set_option linter.unusedSimpArgs false

/-! ### split_Enters: function 21 -/
def split_Enters.f (k : Nat) (a0 : Int) (a1 : Int) (a2 : Int) (a3 : Int) (a4 : Int) : Option (Bool × Int) := (split_Block.f k a0 a1 a2 a3).bind fun bt560 => (if bt560.2 = 0 then (if (mn a0 a1) > (mx a4 1) then (some (decide (bt560.1 < (mx a0 a1)), 0)) else (some (false, 0))) else (some (false, bt560.2)))
/-! ### split_Depth: function 22 -/
mutual
def split_Depth.j0 : Nat → Int → Int → Int → Int → Int → Int → Bool → Option (Int × Int)
 | 0, _, _, _, _, _, _, _ => none
 | k + 1, x0, x1, x2, x3, x4, x13, x31 => if x31 = true then (some (0, x13)) else ((split_Block.f k x0 x1 x2 x3).bind fun bt564 => ((split_Depth.f k bt564.1 bt564.1 x2 x3 x4).bind fun bt566 => (some (wrap64 (bt566.1 + 1), bt566.2))))
def split_Depth.f : Nat → Int → Int → Int → Int → Int → Option (Int × Int)
 | 0, _, _, _, _, _ => none
 | k + 1, a0, a1, a2, a3, a4 => (split_Enters.f k a0 a1 a2 a3 a4).bind fun bt562 => (if bt562.2 = 0 then (split_Depth.j0 k a0 a1 a2 a3 a4 bt562.2 (!bt562.1)) else (split_Depth.j0 k a0 a1 a2 a3 a4 bt562.2 true))
end
end Go.Proofs.YtakmkhokbcjapaaDoor.XA
end

section
namespace Go.Proofs.YtakmkhokbcjapaaDoor.XA
open Go.Proofs.YtakmkhokbcjapaaDoor.Lift Go.RowKit Go.Proofs.YtakmkhokbcjapaaDoorW.PrintWords Go.Proofs.YtakmkhokbcjapaaDoorW.PrintLast Go.Proofs.YtakmkhokbcjapaaDoorW.PrintMore
attribute [local go_sem] max2_int min2_int max_two min_two max_three min_three max_four min_four   -- for this text's walks alone
set_option linter.unusedVariables false
set_option linter.unusedSimpArgs false

/-! ### swageref21_Right: function 23 -/
def swageref21_Right.f (a0 : Int) (a1 : Int) (a2 : Int) (a3 : Int) : Option (Bool) := if a0 ≥ 0 then (if a1 ≥ 0 then (if a0 ≤ 4096 then (if a1 ≤ 4096 then (if a2 ≥ 1 then (if a3 ≥ 1 then (if a2 ≤ 8 then (some (decide (a3 ≤ 8))) else (some false)) else (some false)) else (some false)) else (some false)) else (some false)) else (some false)) else (some false)
/-! ### swageref21_up: function 42 -/
def swageref21_up.f (a0 : Int) (a1 : Int) : Option (Int) := if a1 = 0 then (none) else (if (wrap64 ((wrap64 (Int.tdiv a0 a1)) * a1)) < a0 then (some (wrap64 ((wrap64 (Int.tdiv a0 a1)) + 1))) else (some (wrap64 (Int.tdiv a0 a1))))
/-! ### swageref21_Block: function 24 -/
def swageref21_Block.f (a0 : Int) (a1 : Int) (a2 : Int) (a3 : Int) : Option (Int) := (swageref21_up.f a0 a2).bind fun t681 => ((swageref21_up.f a1 a3).bind fun t682 => (some (mx t681 t682)))
/-! ### swageref21_Enters: function 25 -/
def swageref21_Enters.f (a0 : Int) (a1 : Int) (a2 : Int) (a3 : Int) (a4 : Int) : Option (Bool) := if a0 > (mx a4 1) then (if a1 > (mx a4 1) then ((swageref21_Block.f a0 a1 a2 a3).bind fun t683 => (some (decide (t683 < (mx a0 a1))))) else (some false)) else (some false)
end Go.Proofs.YtakmkhokbcjapaaDoor.XA
end

section
namespace Go.Proofs.YtakmkhokbcjapaaDoor.XA
open Go.Proofs.YtakmkhokbcjapaaDoor.Lift Go.RowKit Go.Proofs.YtakmkhokbcjapaaDoorW.PrintWords Go.Proofs.YtakmkhokbcjapaaDoorW.PrintLast Go.Proofs.YtakmkhokbcjapaaDoorW.PrintMore
attribute [local go_sem] max2_int min2_int max_two min_two max_three min_three max_four min_four   -- for this text's walks alone
set_option linter.unusedVariables false
set_option linter.unusedSimpArgs false

/-! ### swageref21_Depth: function 26 -/
def swageref21_Depth.f : Nat → Int → Int → Int → Int → Int → Option (Int)
 | 0, _, _, _, _, _ => none
 | k + 1, a0, a1, a2, a3, a4 => (swageref21_Enters.f a0 a1 a2 a3 a4).bind fun t684 => (if t684 = true then ((swageref21_Block.f a0 a1 a2 a3).bind fun t685 => ((swageref21_Depth.f k t685 t685 a2 a3 a4).bind fun t686 => (some (wrap64 (1 + t686))))) else (some 0))
end Go.Proofs.YtakmkhokbcjapaaDoor.XA
end

section
namespace Go.Proofs.YtakmkhokbcjapaaDoor.XA
open Go.Proofs.YtakmkhokbcjapaaDoor.Lift Go.RowKit Go.Proofs.YtakmkhokbcjapaaDoorW.PrintWords Go.Proofs.YtakmkhokbcjapaaDoorW.PrintLast Go.Proofs.YtakmkhokbcjapaaDoorW.PrintMore
attribute [local go_sem] max2_int min2_int max_two min_two max_three min_three max_four min_four   -- for this text's walks alone
set_option linter.unusedVariables false
set_option linter.unusedSimpArgs false

/-! ### swagelaw21_SplitLevels: function 7 -/
def swagelaw21_SplitLevels.f (k : Nat) (a0 : Int) (a1 : Int) (a2 : Int) (a3 : Int) (a4 : Int) : Option (Bool) := (swagelaw21_works.f k).bind fun t687 => (if t687 = true then ((split_Block.f k a0 a1 a2 a3).bind fun bt688 => ((split_Enters.f k a0 a1 a2 a3 a4).bind fun bt690 => ((split_Depth.f k a0 a1 a2 a3 a4).bind fun bt692 => ((swageref21_Right.f a0 a1 a2 a3).bind fun t694 => (if t694 = true then (if bt688.2 = 0 then (if bt690.2 = 0 then (if bt692.2 = 0 then ((swageref21_Block.f a0 a1 a2 a3).bind fun t695 => (if bt688.1 = t695 then ((swageref21_Enters.f a0 a1 a2 a3 a4).bind fun t696 => (if (bt690.1 == t696) = true then ((swageref21_Depth.f k a0 a1 a2 a3 a4).bind fun t697 => (some (bt692.1 == t697))) else (some false))) else (some false))) else (some false)) else (some false)) else (some false)) else (if bt688.1 = 0 then (if bt690.1 = true then (some false) else (if bt692.1 = 0 then (if bt688.2 = 2 then (if bt690.2 = 2 then (some (bt692.2 == 2)) else (some false)) else (some false)) else (some false))) else (some false))))))) else (some false))
/-- THE ONE PURE STATEMENT of swagelaw21_SplitLevels: yours. -/
def swagelaw21_SplitLevels.Pure : Prop := ∀ (a0 : Int) (a1 : Int) (a2 : Int) (a3 : Int) (a4 : Int), (Lit.int .i64 a0).wf = true → (Lit.int .i64 a1).wf = true → (Lit.int .i64 a2).wf = true → (Lit.int .i64 a3).wf = true → (Lit.int .i64 a4).wf = true → ∃ k, swagelaw21_SplitLevels.f k a0 a1 a2 a3 a4 = some true
end Go.Proofs.YtakmkhokbcjapaaDoor.XA
end

section
namespace Go.Proofs.YtakmkhokbcjapaaDoor.SaidSplitLevels
open Go.RowKit Go.Proofs.YtakmkhokbcjapaaDoorW.PrintWords Go.Proofs.YtakmkhokbcjapaaDoorW.PrintLast Go.Proofs.YtakmkhokbcjapaaDoor.Opn Go.Proofs.YtakmkhokbcjapaaDoor.XA
set_option linter.unusedVariables false
/-- THE PURE STATEMENT. -/
def Pure : Prop := ∀ (x0 : Int) (x1 : Int) (x2 : Int) (x3 : Int) (x4 : Int), (Lit.int .i64 x0).wf = true → (Lit.int .i64 x1).wf = true → (Lit.int .i64 x2).wf = true → (Lit.int .i64 x3).wf = true → (Lit.int .i64 x4).wf = true → ∃ k, swagelaw21_SplitLevels.f k x0 x1 x2 x3 x4 = some true
end Go.Proofs.YtakmkhokbcjapaaDoor.SaidSplitLevels
end

section
namespace Go.Proofs.YtakmkhokbcjapaaDoor.XA
open Go.Proofs.YtakmkhokbcjapaaDoor.Lift Go.RowKit Go.Proofs.YtakmkhokbcjapaaDoorW.PrintWords Go.Proofs.YtakmkhokbcjapaaDoorW.PrintLast Go.Proofs.YtakmkhokbcjapaaDoorW.PrintMore
attribute [local go_sem] max2_int min2_int max_two min_two max_three min_three max_four min_four   -- for this text's walks alone
set_option linter.unusedVariables false
set_option linter.unusedSimpArgs false

/-! ### swagelaw21_SplitEnds: function 8 -/
def swagelaw21_SplitEnds.j0 : Nat → Int → Int → Int → Int → Int → Int → Bool → Bool → Option (Bool)
 | 0, _, _, _, _, _, _, _, _ => none
 | k + 1, x0, x1, x2, x3, x4, x5, x15, x102 => if x102 = true then (some false) else (if x5 < x4 then (some true) else ((split_Enters.f k x0 x1 x2 x3 x5).bind fun bt705 => (if bt705.2 = 0 then (if x15 = true then (some true) else (some (!bt705.1))) else (some false))))
def swagelaw21_SplitEnds.f (k : Nat) (a0 : Int) (a1 : Int) (a2 : Int) (a3 : Int) (a4 : Int) (a5 : Int) : Option (Bool) := (swagelaw21_works.f k).bind fun t698 => (if t698 = true then ((split_Block.f k a0 a1 a2 a3).bind fun bt699 => ((split_Enters.f k a0 a1 a2 a3 a4).bind fun bt701 => ((split_Depth.f k a0 a1 a2 a3 a4).bind fun bt703 => (if bt699.2 = 0 then (if bt701.2 = 0 then (if bt703.2 = 0 then (if ((decide (bt703.1 > 0)) != bt701.1) = true then (swagelaw21_SplitEnds.j0 k a0 a1 a2 a3 a4 a5 bt701.1 true) else (if bt703.1 > 0 then (if bt703.1 ≥ (mx a0 a1) then (swagelaw21_SplitEnds.j0 k a0 a1 a2 a3 a4 a5 bt701.1 true) else (if bt701.1 = true then (if bt699.1 < 1 then (swagelaw21_SplitEnds.j0 k a0 a1 a2 a3 a4 a5 bt701.1 true) else (if bt699.1 ≥ (mx a0 a1) then (swagelaw21_SplitEnds.j0 k a0 a1 a2 a3 a4 a5 bt701.1 true) else (if a2 = 1 then (swagelaw21_SplitEnds.j0 k a0 a1 a2 a3 a4 a5 bt701.1 (a3 == 1)) else (swagelaw21_SplitEnds.j0 k a0 a1 a2 a3 a4 a5 bt701.1 false)))) else (swagelaw21_SplitEnds.j0 k a0 a1 a2 a3 a4 a5 bt701.1 false))) else (if bt701.1 = true then (if bt699.1 < 1 then (swagelaw21_SplitEnds.j0 k a0 a1 a2 a3 a4 a5 bt701.1 true) else (if bt699.1 ≥ (mx a0 a1) then (swagelaw21_SplitEnds.j0 k a0 a1 a2 a3 a4 a5 bt701.1 true) else (if a2 = 1 then (swagelaw21_SplitEnds.j0 k a0 a1 a2 a3 a4 a5 bt701.1 (a3 == 1)) else (swagelaw21_SplitEnds.j0 k a0 a1 a2 a3 a4 a5 bt701.1 false)))) else (swagelaw21_SplitEnds.j0 k a0 a1 a2 a3 a4 a5 bt701.1 false)))) else (swagelaw21_SplitEnds.j0 k a0 a1 a2 a3 a4 a5 bt701.1 true)) else (swagelaw21_SplitEnds.j0 k a0 a1 a2 a3 a4 a5 bt701.1 true)) else (if bt701.2 = bt699.2 then (some (bt703.2 == bt699.2)) else (some false)))))) else (some false))
/-- THE ONE PURE STATEMENT of swagelaw21_SplitEnds: yours. -/
def swagelaw21_SplitEnds.Pure : Prop := ∀ (a0 : Int) (a1 : Int) (a2 : Int) (a3 : Int) (a4 : Int) (a5 : Int), (Lit.int .i64 a0).wf = true → (Lit.int .i64 a1).wf = true → (Lit.int .i64 a2).wf = true → (Lit.int .i64 a3).wf = true → (Lit.int .i64 a4).wf = true → (Lit.int .i64 a5).wf = true → ∃ k, swagelaw21_SplitEnds.f k a0 a1 a2 a3 a4 a5 = some true
end Go.Proofs.YtakmkhokbcjapaaDoor.XA
end

section
namespace Go.Proofs.YtakmkhokbcjapaaDoor.SaidSplitEnds
open Go.RowKit Go.Proofs.YtakmkhokbcjapaaDoorW.PrintWords Go.Proofs.YtakmkhokbcjapaaDoorW.PrintLast Go.Proofs.YtakmkhokbcjapaaDoor.Opn Go.Proofs.YtakmkhokbcjapaaDoor.XA
set_option linter.unusedVariables false
/-- THE PURE STATEMENT. -/
def Pure : Prop := ∀ (x0 : Int) (x1 : Int) (x2 : Int) (x3 : Int) (x4 : Int) (x5 : Int), (Lit.int .i64 x0).wf = true → (Lit.int .i64 x1).wf = true → (Lit.int .i64 x2).wf = true → (Lit.int .i64 x3).wf = true → (Lit.int .i64 x4).wf = true → (Lit.int .i64 x5).wf = true → ∃ k, swagelaw21_SplitEnds.f k x0 x1 x2 x3 x4 x5 = some true
end Go.Proofs.YtakmkhokbcjapaaDoor.SaidSplitEnds
end

section
/- Rounds that suffice: words beside the printer's 'Ev'. -/
namespace Go.Proofs.YtakmkhokbcjapaaDoor.Evs
open Go.Proofs.YtakmkhokbcjapaaDoorW.PrintWords
section
variable {β : Type} {c : Prop} [Decidable c] {f g : Nat → Option β} {r : β}
theorem ev_pos (hc : c) (h : Ev f r) : Ev (fun n => if c then f n else g n) r := Ev.congr (fun _ => if_pos hc) h
theorem ev_neg (hc : ¬ c) (h : Ev g r) : Ev (fun n => if c then f n else g n) r := Ev.congr (fun _ => if_neg hc) h
end
end Go.Proofs.YtakmkhokbcjapaaDoor.Evs
end

section
/- Block lengths, levels and depths, over numbers: what both sides compute. -/
namespace Go.Proofs.YtakmkhokbcjapaaDoor.PlainSplit
open Go.RowKit Go.Proofs.YtakmkhokbcjapaaDoorW.PrintWords Go.Proofs.YtakmkhokbcjapaaDoorW.PrintLast Go.Proofs.YtakmkhokbcjapaaDoor.XA Go.Proofs.YtakmkhokbcjapaaDoor.Evs
set_option linter.unusedVariables false
set_option linter.unusedSimpArgs false
theorem works_at : swagelaw21_works.f 80 = some true := by decide +kernel
theorem works_ev : Ev (fun k => swagelaw21_works.f k) true := Ev.of (fun k => swagelaw21_works.mono k) works_at
def R (n1 n2 k1 k2 : Int) : Prop := 0 ≤ n1 ∧ n1 ≤ 4096 ∧ 0 ≤ n2 ∧ n2 ≤ 4096 ∧ 1 ≤ k1 ∧ k1 ≤ 8 ∧ 1 ≤ k2 ∧ k2 ≤ 8
instance (n1 n2 k1 k2 : Int) : Decidable (R n1 n2 k1 k2) := by unfold R; exact inferInstance
def upk (n k : Int) : Int := (n + k - 1) / k
def blk (n1 n2 k1 k2 : Int) : Int := mx (upk n1 k1) (upk n2 k2)
theorem wrapSmall {x : Int} (h0 : -9223372036854775808 ≤ x) (h1 : x < 9223372036854775808) : wrap64 x = x := by unfold wrap64; omega
theorem upk_spec {n k : Int} (h0 : 0 ≤ n) (h1 : n ≤ 4096) (k0 : 1 ≤ k) (k1 : k ≤ 8) : 0 ≤ upk n k ∧ upk n k ≤ n ∧ n ≤ k * upk n k ∧ (0 < n → 1 ≤ upk n k ∧ k * (upk n k - 1) < n) ∧ k * upk n k ≤ 8192 := by
  unfold upk
  have : k = 1 ∨ k = 2 ∨ k = 3 ∨ k = 4 ∨ k = 5 ∨ k = 6 ∨ k = 7 ∨ k = 8 := by omega
  rcases this with rfl | rfl | rfl | rfl | rfl | rfl | rfl | rfl <;> omega
theorem up_at {n k : Int} (h0 : 0 ≤ n) (h1 : n ≤ 4096) (k0 : 1 ≤ k) (k1 : k ≤ 8) : split_up.f n k = some (upk n k) := by
  unfold split_up.f
  rw [if_neg (by omega), wrapSmall (x := n + k) (by omega) (by omega), wrapSmall (x := n + k - 1) (by omega) (by omega), Int.tdiv_eq_ediv_of_nonneg (by omega)]
  have := upk_spec h0 h1 k0 k1
  unfold upk at this
  rw [wrapSmall (by omega) (by omega)]
  rfl
theorem dec_iff {p q : Prop} [Decidable p] [Decidable q] (h : p ↔ q) : decide p = decide q := by
  by_cases hp : p
  · rw [decide_eq_true hp, decide_eq_true (h.1 hp)]
  · rw [decide_eq_false hp, decide_eq_false (fun hq => hp (h.2 hq))]
theorem right_l1 (k : Nat) (a b : Int) : split_right.l1 (k + 3) 0 a b = some (decide (1 ≤ a ∧ a ≤ 8 ∧ 1 ≤ b ∧ b ≤ 8)) := by
  have s2 : split_right.l1 (k + 1) (1 + 1) a b = some true := by unfold split_right.l1; exact if_neg (by decide)
  have s1 : split_right.l1 (k + 2) (0 + 1) a b = some (decide (1 ≤ b ∧ b ≤ 8)) := by
    unfold split_right.l1
    rw [if_pos (by decide), if_neg (by decide), if_pos (by decide)]
    by_cases c : b < 1
    · rw [if_pos c, decide_eq_false (by omega)]
    · rw [if_neg c]
      by_cases d : b > 8
      · rw [if_pos d, decide_eq_false (by omega)]
      · rw [if_neg d, s2, decide_eq_true (by omega)]
  unfold split_right.l1
  rw [if_pos (by decide), if_pos rfl]
  by_cases c : a < 1
  · rw [if_pos c, decide_eq_false (by omega)]
  · rw [if_neg c]
    by_cases d : a > 8
    · rw [if_pos d, decide_eq_false (by omega)]
    · rw [if_neg d, s1, dec_iff (p := 1 ≤ b ∧ b ≤ 8) (q := 1 ≤ a ∧ a ≤ 8 ∧ 1 ≤ b ∧ b ≤ 8) (by omega)]
theorem right_at (k : Nat) (n1 n2 k1 k2 : Int) : split_right.f (k + 6) n1 n2 k1 k2 = some (decide (R n1 n2 k1 k2)) := by
  have s2 : split_right.l0 (k + 4) k1 k2 (1 + 1) n1 n2 = some (decide (1 ≤ k1 ∧ k1 ≤ 8 ∧ 1 ≤ k2 ∧ k2 ≤ 8)) := by
    unfold split_right.l0
    rw [if_neg (by decide)]
    exact right_l1 k k1 k2
  have s1 : split_right.l0 (k + 5) k1 k2 (0 + 1) n1 n2 = some (decide (0 ≤ n2 ∧ n2 ≤ 4096 ∧ 1 ≤ k1 ∧ k1 ≤ 8 ∧ 1 ≤ k2 ∧ k2 ≤ 8)) := by
    unfold split_right.l0
    rw [if_pos (by decide), if_neg (by decide), if_pos (by decide)]
    by_cases c : n2 < 0
    · rw [if_pos c, decide_eq_false (by omega)]
    · rw [if_neg c]
      by_cases d : n2 > 4096
      · rw [if_pos d, decide_eq_false (by omega)]
      · rw [if_neg d, s2, dec_iff (p := 1 ≤ k1 ∧ k1 ≤ 8 ∧ 1 ≤ k2 ∧ k2 ≤ 8) (q := 0 ≤ n2 ∧ n2 ≤ 4096 ∧ 1 ≤ k1 ∧ k1 ≤ 8 ∧ 1 ≤ k2 ∧ k2 ≤ 8) (by omega)]
  show split_right.l0 (k + 6) k1 k2 0 n1 n2 = _
  unfold split_right.l0
  rw [if_pos (by decide), if_pos rfl]
  by_cases c : n1 < 0
  · rw [if_pos c, decide_eq_false (fun h => by have := h.1; omega)]
  · rw [if_neg c]
    by_cases d : n1 > 4096
    · rw [if_pos d, decide_eq_false (fun h => by have := h.2.1; omega)]
    · rw [if_neg d, s1, dec_iff (p := 0 ≤ n2 ∧ n2 ≤ 4096 ∧ 1 ≤ k1 ∧ k1 ≤ 8 ∧ 1 ≤ k2 ∧ k2 ≤ 8) (q := R n1 n2 k1 k2) (by unfold R; omega)]
theorem block_ev (n1 n2 k1 k2 : Int) : Ev (fun k => split_Block.f k n1 n2 k1 k2) (if R n1 n2 k1 k2 then (blk n1 n2 k1 k2, 0) else (0, 2)) := by
  refine ⟨6, fun k hk => ?_⟩
  obtain ⟨j, rfl⟩ : ∃ j, k = j + 6 := ⟨k - 6, by omega⟩
  show split_Block.f (j + 6) n1 n2 k1 k2 = _
  unfold split_Block.f
  rw [right_at]
  by_cases h : R n1 n2 k1 k2
  · have h' := h
    obtain ⟨a, b, c, d, e, f, g, i⟩ := h'
    simp only [Option.bind_some, decide_eq_true h, if_true]
    show (split_up.f n1 k1).bind _ = _
    rw [up_at a b e f, up_at c d g i, if_pos h]
    rfl
  · simp [h]
theorem blk_bound {n1 n2 k1 k2 : Int} (h : R n1 n2 k1 k2) : 0 ≤ blk n1 n2 k1 k2 ∧ blk n1 n2 k1 k2 ≤ 4096 ∧ (0 < mx n1 n2 → 1 ≤ blk n1 n2 k1 k2) := by
  obtain ⟨a, b, c, d, e, f, g, i⟩ := h
  have h1 := upk_spec a b e f
  have h2 := upk_spec c d g i
  unfold blk mx
  split <;> split <;> omega
end Go.Proofs.YtakmkhokbcjapaaDoor.PlainSplit
end

section
/- The law SplitShort, over numbers. -/
namespace Go.Proofs.YtakmkhokbcjapaaDoor.Pure
open Go.RowKit Go.Proofs.YtakmkhokbcjapaaDoorW.PrintWords Go.Proofs.YtakmkhokbcjapaaDoorW.PrintLast Go.Proofs.YtakmkhokbcjapaaDoor.XA Go.Proofs.YtakmkhokbcjapaaDoor.SaidSplitShort Go.Proofs.YtakmkhokbcjapaaDoor.PlainSplit Go.Proofs.YtakmkhokbcjapaaDoor.Evs
set_option linter.unusedVariables false
set_option linter.unusedSimpArgs false
theorem short_facts {a0 a1 a2 a3 : Int} (h : R a0 a1 a2 a3) : (0 < a0 ∨ 0 < a1 → 1 ≤ blk a0 a1 a2 a3) ∧ a0 ≤ a2 * blk a0 a1 a2 a3 ∧ a1 ≤ a3 * blk a0 a1 a2 a3 ∧ (0 < a0 ∨ 0 < a1 → a2 * (blk a0 a1 a2 a3 - 1) < a0 ∨ a3 * (blk a0 a1 a2 a3 - 1) < a1) ∧ a2 * blk a0 a1 a2 a3 ≤ 32768 ∧ a3 * blk a0 a1 a2 a3 ≤ 32768 ∧ 0 ≤ a2 * blk a0 a1 a2 a3 ∧ 0 ≤ a3 * blk a0 a1 a2 a3 := by
  obtain ⟨a, b, c, d, e, f, g, i⟩ := h
  obtain ⟨p0, p1, p2, p3, _⟩ := upk_spec a b e f
  obtain ⟨q0, q1, q2, q3, _⟩ := upk_spec c d g i
  have hm : upk a0 a2 ≤ blk a0 a1 a2 a3 ∧ upk a1 a3 ≤ blk a0 a1 a2 a3 ∧ (blk a0 a1 a2 a3 = upk a0 a2 ∨ blk a0 a1 a2 a3 = upk a1 a3) := by
    unfold blk mx
    split <;> omega
  obtain ⟨m1, m2, m3⟩ := hm
  have hb : blk a0 a1 a2 a3 ≤ 4096 := by omega
  have hb0 : 0 ≤ blk a0 a1 a2 a3 := by omega
  generalize hB : blk a0 a1 a2 a3 = B at m1 m2 m3 hb hb0
  have n1 := Int.mul_le_mul_of_nonneg_left m1 (show 0 ≤ a2 by omega)
  have n2 := Int.mul_le_mul_of_nonneg_left m2 (show 0 ≤ a3 by omega)
  have n3 := Int.mul_le_mul f hb hb0 (show (0 : Int) ≤ 8 by omega)
  have n4 := Int.mul_le_mul i hb hb0 (show (0 : Int) ≤ 8 by omega)
  have n5 := Int.mul_nonneg (show 0 ≤ a2 by omega) hb0
  have n6 := Int.mul_nonneg (show 0 ≤ a3 by omega) hb0
  refine ⟨fun h => by omega, by omega, by omega, fun h => ?_, by omega, by omega, n5, n6⟩
  rcases m3 with m | m
  · by_cases h0 : 0 < a0
    · left; rw [m]; exact (p3 h0).2
    · right
      have hz : B = 0 ∨ 0 < a1 := by omega
      have h1 : 0 < a1 := by omega
      have : B = upk a1 a3 := by
        have : upk a0 a2 = 0 := by omega
        omega
      rw [this]; exact (q3 h1).2
  · by_cases h0 : 0 < a1
    · right; rw [m]; exact (q3 h0).2
    · left
      have h1 : 0 < a0 := by omega
      have : B = upk a0 a2 := by
        have : upk a1 a3 = 0 := by omega
        omega
      rw [this]; exact (p3 h1).2
theorem SplitShort : SaidSplitShort.Pure := by
  intro a0 a1 a2 a3 w0 w1 w2 w3
  apply Ev.rounds
  unfold swagelaw21_SplitShort.f
  refine Ev.bind works_ev (ev_pos rfl (Ev.bind (block_ev a0 a1 a2 a3) ?_))
  by_cases h : R a0 a1 a2 a3
  · obtain ⟨f1, f2, f3, f4, f5, f6, f7, f8⟩ := short_facts h
    have hb := blk_bound h
    obtain ⟨a, b, c, d, e, f, g, i⟩ := id h
    simp only [if_pos h, if_true]
    have e1 : wrap64 (a2 * blk a0 a1 a2 a3) = a2 * blk a0 a1 a2 a3 := wrapSmall (by omega) (by omega)
    have e2 : wrap64 (a3 * blk a0 a1 a2 a3) = a3 * blk a0 a1 a2 a3 := wrapSmall (by omega) (by omega)
    have e3 : wrap64 (blk a0 a1 a2 a3 - 1) = blk a0 a1 a2 a3 - 1 := wrapSmall (by omega) (by omega)
    have g1 : a2 * (blk a0 a1 a2 a3 - 1) = a2 * blk a0 a1 a2 a3 - a2 := by rw [Int.mul_sub, Int.mul_one]
    have g2 : a3 * (blk a0 a1 a2 a3 - 1) = a3 * blk a0 a1 a2 a3 - a3 := by rw [Int.mul_sub, Int.mul_one]
    have e4 : wrap64 (a2 * (blk a0 a1 a2 a3 - 1)) = a2 * (blk a0 a1 a2 a3 - 1) := wrapSmall (by omega) (by omega)
    have e5 : wrap64 (a3 * (blk a0 a1 a2 a3 - 1)) = a3 * (blk a0 a1 a2 a3 - 1) := wrapSmall (by omega) (by omega)
    rw [e3, e1, e2, e4, e5]
    have rest : 0 < a0 ∨ 0 < a1 → Ev (fun _ : Nat => (if blk a0 a1 a2 a3 ≥ 1 then (if a2 * blk a0 a1 a2 a3 ≥ a0 then (if a3 * blk a0 a1 a2 a3 ≥ a1 then (if a2 * (blk a0 a1 a2 a3 - 1) < a0 then (some true) else (some (decide (a3 * (blk a0 a1 a2 a3 - 1) < a1)))) else (some false)) else (some false)) else (some false))) true := by
      intro hz
      rw [if_pos (f1 hz), if_pos f2, if_pos f3]
      by_cases h4 : a2 * (blk a0 a1 a2 a3 - 1) < a0
      · rw [if_pos h4]; exact Ev.now _
      · rw [if_neg h4, decide_eq_true ((f4 hz).resolve_left h4)]; exact Ev.now _
    by_cases h0 : a0 = 0
    · by_cases h1 : a1 = 0
      · subst h0; subst h1
        have : blk 0 0 a2 a3 = 0 := by
          have p := upk_spec a b e f
          have q := upk_spec c d g i
          unfold blk mx
          split <;> omega
        rw [this]
        exact Ev.now _
      · simp only [if_pos h0, if_neg h1]
        exact rest (by omega)
    · simp only [if_neg h0]
      exact rest (by omega)
  · simp only [if_neg h]
    exact Ev.now _
end Go.Proofs.YtakmkhokbcjapaaDoor.Pure
end

section
/- Numbers as digits: plain laws, no program in sight. -/
namespace Go.Proofs.YtakmkhokbcjapaaDoor.Nums
open Go Go.RowKit Go.Proofs.YtakmkhokbcjapaaDoorW.PrintWords
set_option linter.unusedVariables false
set_option linter.unusedSimpArgs false

theorem wrap64_in {x : Int} (h : -9223372036854775808 ≤ x) (h' : x ≤ 9223372036854775807) : wrap64 x = x := by unfold wrap64; omega
theorem u64_in {x : Int} (h : 0 ≤ x) (h' : x < 18446744073709551616) : IntKind.u64.wrap x = x := by
  simp [IntKind.wrap, IntKind.bits, IntKind.signed]; omega
/-- What a row of digits is worth, the lowest first. -/
def val (b : Int) : List Int → Int
  | [] => 0
  | d :: l => d + b * val b l
def dig (b : Int) (l : List Int) : Prop := ∀ d ∈ l, 0 ≤ d ∧ d < b
/-- Without the noughts at the top. -/
def strip : List Int → List Int
  | [] => []
  | d :: l => if strip l = [] then (if d = 0 then [] else [d]) else d :: strip l
def digsF (b : Nat) : Nat → Nat → List Int
  | 0, _ => []
  | f + 1, n => if n = 0 then [] else ((n % b : Nat) : Int) :: digsF b f (n / b)
/-- The digits of a number. -/
def digs (b n : Nat) : List Int := digsF b n n

theorem digsF_eq {b : Nat} (hb : 2 ≤ b) : ∀ f g n, n ≤ f → n ≤ g → digsF b f n = digsF b g n
  | 0, 0, n, _, _ => rfl
  | 0, g + 1, n, h, _ => by obtain rfl : n = 0 := by omega
                            simp [digsF]
  | f + 1, 0, n, _, h => by obtain rfl : n = 0 := by omega
                            simp [digsF]
  | f + 1, g + 1, n, hf, hg => by
    simp only [digsF]
    by_cases h0 : n = 0
    · simp [h0]
    · rw [if_neg h0, if_neg h0]
      have : n / b < n := Nat.div_lt_self (by omega) hb
      rw [digsF_eq hb f g (n / b) (by omega) (by omega)]
theorem digs_zero (b : Nat) : digs b 0 = [] := rfl
theorem digs_pos {b n : Nat} (hb : 2 ≤ b) (h : 0 < n) : digs b n = ((n % b : Nat) : Int) :: digs b (n / b) := by
  obtain ⟨m, rfl⟩ : ∃ m, n = m + 1 := ⟨n - 1, by omega⟩
  have : (m + 1) / b < m + 1 := Nat.div_lt_self (by omega) hb
  show digsF b (m + 1) (m + 1) = _
  simp only [digsF]
  rw [if_neg (by omega)]
  rw [digsF_eq hb m ((m + 1) / b) ((m + 1) / b) (by omega) (Nat.le_refl _)]
  rfl
theorem digs_ind {b : Nat} (hb : 2 ≤ b) {P : Nat → Prop} (h0 : P 0) (hs : ∀ n, 0 < n → P (n / b) → P n) : ∀ n, P n := by
  intro n
  induction n using Nat.strongRecOn with
  | ind n ih =>
    by_cases h : n = 0
    · exact h ▸ h0
    · exact hs n (by omega) (ih _ (Nat.div_lt_self (by omega) hb))
theorem dig_digs {b : Nat} (hb : 2 ≤ b) (n : Nat) : dig b (digs b n) := by
  refine digs_ind hb (P := fun n => dig b (digs b n)) ?_ ?_ n
  · intro d hd; simp [digs_zero] at hd
  · intro n hn ih d hd
    rw [digs_pos hb hn] at hd
    rcases List.mem_cons.1 hd with rfl | hd
    · have := Nat.mod_lt n (show b > 0 by omega)
      omega
    · exact ih d hd
theorem val_digs {b : Nat} (hb : 2 ≤ b) (n : Nat) : val b (digs b n) = n := by
  refine digs_ind hb (P := fun n => val b (digs b n) = n) ?_ ?_ n
  · rfl
  · intro n hn ih
    rw [digs_pos hb hn]
    show ((n % b : Nat) : Int) + (b : Int) * val b (digs b (n / b)) = n
    rw [ih]
    have := Nat.mod_add_div n b
    exact_mod_cast this
theorem digs_eq_nil {b : Nat} (hb : 2 ≤ b) {n : Nat} : digs b n = [] ↔ n = 0 := by
  constructor
  · intro h
    by_cases h0 : n = 0
    · exact h0
    · rw [digs_pos hb (by omega)] at h
      simp at h
  · rintro rfl; rfl
theorem val_nonneg {b : Nat} {l : List Int} (h : dig b l) : 0 ≤ val b l := by
  induction l with
  | nil => simp [val]
  | cons d l ih =>
    have h1 := ih fun x hx => h x (List.mem_cons_of_mem _ hx)
    have h2 := h d (List.mem_cons_self ..)
    have h3 : (0 : Int) ≤ (b : Int) * val b l := Int.mul_nonneg (by omega) h1
    show (0 : Int) ≤ d + (b : Int) * val b l
    omega
theorem strip_digs {b : Nat} (hb : 2 ≤ b) {l : List Int} (h : dig b l) : digs b (val b l).toNat = strip l := by
  induction l with
  | nil => rfl
  | cons d l ih =>
    have hl : dig b l := fun x hx => h x (List.mem_cons_of_mem _ hx)
    have hd := h d (List.mem_cons_self ..)
    have ih := ih hl
    have hv := val_nonneg hl
    have e : val b (d :: l) = d + (b : Int) * val b l := rfl
    obtain ⟨v, hv'⟩ : ∃ v : Nat, val b l = v := ⟨(val b l).toNat, by omega⟩
    obtain ⟨d', hd'⟩ : ∃ d' : Nat, d = d' := ⟨d.toNat, by omega⟩
    have hdb : d' < b := by omega
    rw [hv', Int.toNat_natCast] at ih
    have en : (val b (d :: l)).toNat = d' + b * v := by
      rw [e, hv', hd']
      exact_mod_cast Int.toNat_natCast (d' + b * v)
    rw [en]
    simp only [strip]
    by_cases hs : strip l = []
    · rw [if_pos hs]
      rw [hs] at ih
      have h0 : v = 0 := (digs_eq_nil hb).1 ih
      subst h0
      by_cases h1 : d = 0
      · rw [if_pos h1]
        have : d' = 0 := by omega
        subst this
        rfl
      · rw [if_neg h1]
        rw [Nat.mul_zero, Nat.add_zero, digs_pos hb (by omega), Nat.mod_eq_of_lt hdb, Nat.div_eq_of_lt hdb, ← hd']
        rfl
    · rw [if_neg hs]
      have hv0 : v ≠ 0 := by
        rintro rfl
        exact hs (ih.symm.trans rfl)
      have : 0 < b * v := Nat.mul_pos (by omega) (by omega)
      rw [digs_pos hb (by omega)]
      rw [Nat.add_mul_mod_self_left, Nat.mod_eq_of_lt hdb, Nat.add_mul_div_left _ _ (by omega), Nat.div_eq_of_lt hdb, Nat.zero_add, ih, hd']
theorem digs_of {b : Nat} (hb : 2 ≤ b) {l : List Int} (h : dig b l) {n : Nat} (hn : val b l = n) : strip l = digs b n := by
  rw [← strip_digs hb h, hn, Int.toNat_natCast]
theorem strip_of_digs {b : Nat} (hb : 2 ≤ b) (n : Nat) : strip (digs b n) = digs b n := digs_of hb (dig_digs hb n) (val_digs hb n)
theorem strip_snoc (l : List Int) (d : Int) : strip (l ++ [d]) = if d = 0 then strip l else l ++ [d] := by
  induction l with
  | nil => by_cases h : d = 0 <;> simp [strip, h]
  | cons x l ih =>
    simp only [List.cons_append, strip, ih]
    by_cases h : d = 0
    · simp only [h, if_true]
    · simp only [h, if_false]
      rw [if_neg (by simp)]
theorem strip_len (l : List Int) : (strip l).length ≤ l.length := by
  induction l with
  | nil => simp [strip]
  | cons d l ih =>
    simp only [strip]
    split
    · split <;> simp
    · simp only [List.length_cons]; omega
theorem digs_len {b : Nat} (hb : 2 ≤ b) : ∀ m n, n < b ^ m → (digs b n).length ≤ m
  | 0, n, h => by
    have : n = 0 := by simpa using h
    subst this; simp [digs_zero]
  | m + 1, n, h => by
    by_cases h0 : n = 0
    · subst h0; simp [digs_zero]
    · rw [digs_pos hb (by omega)]
      have : n / b < b ^ m := by
        rw [Nat.div_lt_iff_lt_mul (by omega)]
        rwa [Nat.pow_succ] at h
      have := digs_len hb m (n / b) this
      simp only [List.length_cons]; omega
theorem lt_pow_len {b : Nat} (hb : 2 ≤ b) (n : Nat) : n < b ^ (digs b n).length := by
  refine digs_ind hb (P := fun n => n < b ^ (digs b n).length) (by simp [digs_zero]) ?_ n
  intro n hn ih
  rw [digs_pos hb hn, List.length_cons, Nat.pow_succ]
  have h2 : n < b * (n / b + 1) := Nat.lt_mul_div_succ n (by omega)
  calc n < b * (n / b + 1) := h2
    _ ≤ b * b ^ (digs b (n / b)).length := Nat.mul_le_mul_left _ ih
    _ = b ^ (digs b (n / b)).length * b := Nat.mul_comm _ _
theorem val_snoc (b : Int) (l : List Int) (d : Int) : val b (l ++ [d]) = val b l + d * b ^ l.length := by
  induction l with
  | nil => simp [val]
  | cons x l ih =>
    simp only [List.cons_append, val, ih, List.length_cons, Int.pow_succ, Int.mul_add]
    rw [Int.mul_comm (b ^ l.length) b, ← Int.mul_assoc b d, Int.mul_comm b d, Int.mul_assoc d b]
    omega
theorem val_replicate (b : Int) (n : Nat) : val b (List.replicate n 0) = 0 := by
  induction n with
  | zero => rfl
  | succ n ih => simp [List.replicate_succ, val, ih]
theorem dig_replicate {b : Int} (hb : 0 < b) (n : Nat) : dig b (List.replicate n 0) := by
  intro d hd
  obtain rfl := List.eq_of_mem_replicate hd
  exact ⟨Int.le_refl _, hb⟩
theorem dig_nil (b : Int) : dig b [] := by intro d hd; simp at hd
theorem dig_cons {b d : Int} {l : List Int} (h0 : 0 ≤ d) (h1 : d < b) (h : dig b l) : dig b (d :: l) := by
  intro x hx
  rcases List.mem_cons.1 hx with rfl | hx
  · exact ⟨h0, h1⟩
  · exact h x hx
theorem dig_take {b : Int} {l : List Int} (h : dig b l) (n : Nat) : dig b (l.take n) := fun x hx => h x (List.mem_of_mem_take hx)
theorem dig_set {b d : Int} {l : List Int} (h : dig b l) (h0 : 0 ≤ d) (h1 : d < b) (n : Nat) : dig b (l.set n d) := by
  intro x hx
  rcases List.mem_or_eq_of_mem_set hx with hx | rfl
  · exact h x hx
  · exact ⟨h0, h1⟩
theorem rd_nat (l : List Int) (n : Nat) : rd l (n : Int) = l.getD n 0 := rfl
theorem rd_lt {b : Int} {l : List Int} (h : dig b l) {n : Nat} (hn : n < l.length) : 0 ≤ rd l (n : Int) ∧ rd l (n : Int) < b := by
  rw [rd_nat, List.getD_eq_getElem?_getD, List.getElem?_eq_getElem hn]
  exact h _ (List.getElem_mem hn)
theorem rd_of {l : List Int} {n : Nat} (hn : n < l.length) : rd l (n : Int) = l[n] := by
  rw [rd_nat, List.getD_eq_getElem?_getD, List.getElem?_eq_getElem hn]; rfl
theorem take_snoc {l : List Int} {n : Nat} (hn : n < l.length) : l.take (n + 1) = l.take n ++ [rd l (n : Int)] := by
  rw [rd_of hn, List.take_succ_eq_append_getElem hn]
theorem val_take_succ (b : Int) {l : List Int} {n : Nat} (hn : n < l.length) : val b (l.take (n + 1)) = val b (l.take n) + rd l (n : Int) * b ^ n := by
  rw [take_snoc hn, val_snoc, List.length_take, Nat.min_eq_left (by omega)]
theorem val_set (b : Int) (d : Int) : ∀ (l : List Int) (n : Nat), n < l.length → val b (l.set n d) = val b l + (d - rd l (n : Int)) * b ^ n
  | [], n, h => by simp at h
  | x :: l, 0, h => by
    simp only [List.set_cons_zero, val, rd_nat, Int.pow_zero, Int.mul_one]
    show d + b * val b l = x + b * val b l + (d - x)
    omega
  | x :: l, n + 1, h => by
    have ih := val_set b d l n (by simpa using h)
    simp only [List.set_cons_succ, val, ih]
    rw [rd_nat, rd_nat, show (x :: l).getD (n + 1) 0 = l.getD n 0 from rfl, Int.mul_add, Int.pow_succ, Int.mul_comm (b ^ n) b]
    have e : b * ((d - l.getD n 0) * b ^ n) = (d - l.getD n 0) * (b * b ^ n) := by rw [← Int.mul_assoc, Int.mul_comm b, Int.mul_assoc]
    rw [e]
    omega
theorem rd_set_ne {l : List Int} {m n : Nat} (d : Int) (h : m ≠ n) : rd (l.set m d) (n : Int) = rd l (n : Int) := by
  rw [rd_nat, rd_nat, List.getD_eq_getElem?_getD, List.getD_eq_getElem?_getD, List.getElem?_set_ne h]
theorem rd_out {l : List Int} {n : Nat} (h : l.length ≤ n) : rd l (n : Int) = 0 := by
  rw [rd_nat, List.getD_eq_getElem?_getD, List.getElem?_eq_none h]; rfl
theorem rd_replicate (m n : Nat) : rd (List.replicate m 0) (n : Int) = 0 := by
  by_cases h : n < m
  · rw [rd_of (by simpa using h)]; simp
  · exact rd_out (by simpa using Nat.le_of_not_lt h)
theorem val_lt {b : Int} (hb : 0 < b) {l : List Int} (h : dig b l) : val b l < b ^ l.length := by
  induction l with
  | nil => simp [val]
  | cons d l ih =>
    have h1 := ih fun x hx => h x (List.mem_cons_of_mem _ hx)
    have h2 := h d (List.mem_cons_self ..)
    have h3 : b * (val b l + 1) ≤ b * b ^ l.length := Int.mul_le_mul_of_nonneg_left (by omega) (by omega)
    rw [Int.mul_add, Int.mul_one] at h3
    show d + b * val b l < b ^ (l.length + 1)
    rw [Int.pow_succ, Int.mul_comm (b ^ l.length) b]
    omega

/-- A power that no tactic opens. -/
def pw (b : Int) (n : Nat) : Int := b ^ n
theorem pw_succ (b : Int) (n : Nat) : pw b (n + 1) = pw b n * b := Int.pow_succ ..
theorem pw_add (b : Int) (m n : Nat) : pw b (m + n) = pw b m * pw b n := Int.pow_add ..
theorem pw_nonneg {b : Int} (hb : 0 ≤ b) (n : Nat) : 0 ≤ pw b n := Int.pow_nonneg hb
theorem val_setP (b : Int) (d : Int) {l : List Int} {n : Nat} (h : n < l.length) : val b (l.set n d) = val b l + (d - rd l (n : Int)) * pw b n := val_set b d l n h
theorem val_take_succP (b : Int) {l : List Int} {n : Nat} (hn : n < l.length) : val b (l.take (n + 1)) = val b (l.take n) + rd l (n : Int) * pw b n := val_take_succ b hn
theorem val_ltP {b : Int} (hb : 0 < b) {l : List Int} (h : dig b l) : val b l < pw b l.length := val_lt hb h
attribute [irreducible] pw
theorem row_step {b P T c a y r v v' : Int} (hT : T = c + (a * y + r)) (hv : v' = v + (T % b - r) * P) : v' + (T / b) * (P * b) = v + c * P + a * y * P := by
  have h := Int.emod_add_mul_ediv T b
  have e : T % b = T - b * (T / b) := by omega
  rw [hv, e, hT]
  grind
/-- A number: its sign and its digits. -/
def neg (x : Int) : Bool := decide (x < 0)
def mag (b : Nat) (x : Int) : List Int := digs b x.natAbs
theorem mag_nil {b : Nat} (hb : 2 ≤ b) {x : Int} : mag b x = [] ↔ x = 0 := by
  rw [mag, digs_eq_nil hb]; omega
theorem mag_len_zero {b : Nat} (hb : 2 ≤ b) {x : Int} : (mag b x).length = 0 ↔ x = 0 := by
  rw [List.length_eq_zero_iff, mag_nil hb]
theorem digs_len_mono {b : Nat} (hb : 2 ≤ b) {m n : Nat} (h : m ≤ n) : (digs b m).length ≤ (digs b n).length :=
  digs_len hb _ _ (Nat.lt_of_le_of_lt h (lt_pow_len hb n))
def cmp3 (x y : Int) : Int := if x < y then -1 else if y < x then 1 else 0
theorem cmp3_lt {x y : Int} (h : x < y) : cmp3 x y = -1 := if_pos h
theorem cmp3_gt {x y : Int} (h : y < x) : cmp3 x y = 1 := by rw [cmp3, if_neg (by omega), if_pos h]
theorem cmp3_self (x : Int) : cmp3 x x = 0 := by simp [cmp3]
theorem cmp3_add (x y z : Int) : cmp3 (x + z) (y + z) = cmp3 x y := by
  unfold cmp3
  by_cases h : x < y
  · rw [if_pos h, if_pos (by omega)]
  · rw [if_neg h, if_neg (by omega)]
    by_cases h' : y < x
    · rw [if_pos h', if_pos (by omega)]
    · rw [if_neg h', if_neg (by omega)]
theorem cmp3_take {b : Int} (hb : 0 < b) {l m : List Int} (hl : dig b l) (hm : dig b m) {n : Nat} (h1 : n < l.length) (h2 : n < m.length) :
    cmp3 (val b (l.take (n + 1))) (val b (m.take (n + 1))) = if rd l (n : Int) < rd m (n : Int) then -1 else if rd l (n : Int) > rd m (n : Int) then 1 else cmp3 (val b (l.take n)) (val b (m.take n)) := by
  have v1 := val_ltP hb (dig_take hl n)
  have v2 := val_ltP hb (dig_take hm n)
  rw [List.length_take, Nat.min_eq_left (by omega)] at v1 v2
  have hbn : ∃ b' : Nat, b = b' := ⟨b.toNat, by omega⟩
  obtain ⟨b', rfl⟩ := hbn
  have w1 := val_nonneg (dig_take hl n)
  have w2 := val_nonneg (dig_take hm n)
  have hp : (0 : Int) ≤ pw b' n := pw_nonneg (by omega) n
  rw [val_take_succP _ h1, val_take_succP _ h2]
  generalize rd l (n : Int) = x at *
  generalize rd m (n : Int) = y at *
  generalize val (b' : Int) (l.take n) = v at *
  generalize val (b' : Int) (m.take n) = w at *
  generalize pw (b' : Int) n = p at *
  by_cases c1 : x < y
  · rw [if_pos c1]
    have := Int.mul_le_mul_of_nonneg_right (show x + 1 ≤ y by omega) hp
    rw [Int.add_mul, Int.one_mul] at this
    exact cmp3_lt (by omega)
  · rw [if_neg c1]
    by_cases c2 : x > y
    · rw [if_pos c2]
      have := Int.mul_le_mul_of_nonneg_right (show y + 1 ≤ x by omega) hp
      rw [Int.add_mul, Int.one_mul] at this
      exact cmp3_gt (by omega)
    · rw [if_neg c2]
      obtain rfl : x = y := by omega
      exact cmp3_add _ _ _

theorem mag_len_of {b : Nat} (hb : 2 ≤ b) {x : Int} {m : Nat} (h : x.natAbs < 2 ^ m) : (mag b x).length ≤ m :=
  digs_len hb m _ (Nat.lt_of_lt_of_le h (Nat.pow_le_pow_left hb m))
end Go.Proofs.YtakmkhokbcjapaaDoor.Nums
end

section
/- The program's numbers (limbs of 32 bits): what the printed functions come to. -/
namespace Go.Proofs.YtakmkhokbcjapaaDoor.IntA
open Go Go.RowKit Go.Proofs.YtakmkhokbcjapaaDoorW.PrintWords Go.Proofs.YtakmkhokbcjapaaDoorW.PrintLast Go.Proofs.YtakmkhokbcjapaaDoor.XA Go.Proofs.YtakmkhokbcjapaaDoor.Nums Go.Proofs.YtakmkhokbcjapaaDoor.Evs
set_option linter.unusedVariables false
set_option linter.unusedSimpArgs false

theorem trim_loop (l : List Int) (hl : l.length ≤ 4611686018427387904) : ∀ n : Nat, n ≤ l.length → Ev (fun k => limb_trim.l0 k l (n : Int)) (strip (l.take n))
  | 0, _ => by
    refine Ev.step (f := fun _ => some (l.take 0)) (fun k => ?_) (by simpa [strip] using Ev.now _)
    simp only [limb_trim.l0]
    rw [if_neg (by omega), if_pos (by omega), if_pos (by omega)]
    rfl
  | n + 1, h => by
    refine Ev.step (f := fun k => if rd l (n : Int) = 0 then limb_trim.l0 k l (n : Int) else some (l.take (n + 1))) (fun k => ?_) ?_
    · simp only [limb_trim.l0]
      have e : wrap64 (((n + 1 : Nat) : Int) - 1) = n := by rw [wrap64_in] <;> omega
      rw [if_pos (by omega), e, if_pos (by omega), if_pos (by omega), if_pos (show (0 : Int) ≤ ((n + 1 : Nat) : Int) by omega), if_pos (show ((n + 1 : Nat) : Int) ≤ (l.length : Int) by omega)]
      rfl
    · rw [take_snoc (show n < l.length by omega), strip_snoc]
      by_cases h0 : rd l (n : Int) = 0
      · rw [if_pos h0]; exact ev_pos h0 (trim_loop l hl n (by omega))
      · rw [if_neg h0]; exact ev_neg h0 (Ev.now _)
theorem ev_trim (l : List Int) (hl : l.length ≤ 4611686018427387904) : Ev (fun k => limb_trim.f k l) (strip l) := by
  have := trim_loop l hl l.length (Nat.le_refl _)
  rw [List.take_length] at this
  exact this
theorem ev_norm (l : List Int) (hl : l.length ≤ 70368744177664) : Ev (fun k => limb_Norm.f k l) (strip l) := by
  unfold limb_Norm.f
  refine Ev.bind (ev_trim l (by omega)) ?_
  have := strip_len l
  exact ev_pos (by omega) (ev_pos (by omega) (Ev.now _))
theorem made_at (s : Bool) (l : List Int) : integer_made.f s l = some (s && decide (l ≠ []), l) := by
  unfold integer_made.f
  cases s
  · rfl
  · cases l <;> simp
theorem ev_make (s : Bool) (l : List Int) (hl : l.length ≤ 70368744177664) : Ev (fun k => integer_Make.f k s l) (s && decide (strip l ≠ []), strip l) := by
  unfold integer_Make.f
  refine Ev.bind (ev_norm l hl) ?_
  simp only [made_at, Option.bind_some]
  exact Ev.now _
theorem two_limbs (n : Nat) (h : n < 18446744073709551616) : strip [(n : Int) % 4294967296, ((n : Int) / 4294967296) % 4294967296] = digs 4294967296 n := by
  refine digs_of (by decide) ?_ ?_
  · exact dig_cons (by omega) (by omega) (dig_cons (by omega) (by omega) (dig_nil _))
  · simp only [val]; omega
theorem ev_of (x : Int) (h : -9223372036854775808 ≤ x) (h' : x ≤ 9223372036854775807) : Ev (fun k => integer_Of.f k x) (neg x, mag 4294967296 x) := by
  unfold integer_Of.f
  by_cases hx : x < 0
  · refine ev_pos hx ?_
    have e : IntKind.u64.wrap (-(IntKind.u64.wrap x)) = (x.natAbs : Int) := by
      simp [IntKind.wrap, IntKind.bits, IntKind.signed]; omega
    rw [e]
    refine Ev.bind (ev_make true _ (by simp)) ?_
    rw [two_limbs _ (by omega)]
    have hne : digs 4294967296 x.natAbs ≠ [] := by
      intro hh
      have := (digs_eq_nil (by decide)).1 hh
      omega
    simp only [neg, hx, hne, decide_true, Bool.true_and, ne_eq, not_false_eq_true, decide_not, decide_false, Bool.not_false, mag]
    exact Ev.now _
  · refine ev_neg hx ?_
    have e : IntKind.u64.wrap x = (x.natAbs : Int) := by
      rw [u64_in] <;> omega
    rw [e]
    refine Ev.bind (ev_make false _ (by simp)) ?_
    rw [two_limbs _ (by omega)]
    simp only [neg, hx, decide_false, Bool.false_and, mag]
    exact Ev.now _

theorem mul_inner (x y : List Int) (hx : dig 4294967296 x) (hy : dig 4294967296 y) (lx : x.length ≤ 1099511627776) (ly : y.length ≤ 1099511627776) (i : Nat) (hi : i < x.length) (R : List Int)
    (next : ∀ acc, dig 4294967296 acc → acc.length = x.length + y.length → (∀ p : Nat, i + 1 + y.length ≤ p → rd acc (p : Int) = 0) → val 4294967296 acc = val 4294967296 (x.take (i + 1)) * val 4294967296 y → Ev (fun k => limb_Mul.l0 k y acc x (x.length : Int) ((i : Int) + 1)) R) (d : Nat) :
    ∀ j acc c, j + d = y.length → dig 4294967296 acc → acc.length = x.length + y.length → (∀ p : Nat, i + y.length ≤ p → rd acc (p : Int) = 0) → 0 ≤ c → c < 4294967296 →
      val 4294967296 acc + c * pw 4294967296 (i + j) = val 4294967296 (x.take i) * val 4294967296 y + rd x (i : Int) * pw 4294967296 i * val 4294967296 (y.take j) →
      Ev (fun k => limb_Mul.l1 k y acc (i : Int) (rd x (i : Int)) c x (x.length : Int) (i : Int) y (y.length : Int) (j : Int)) R := by
  induction d with
  | zero =>
    intro j acc c hj ha hl hz hc hc' hv
    have HV := Aside0.mk hv
    clear hv
    obtain rfl : j = y.length := by omega
    have hw : wrap64 ((i : Int) + (y.length : Int)) = ((i + y.length : Nat) : Int) := by rw [wrap64_in] <;> omega
    refine Ev.step (f := fun k => limb_Mul.l0 k y (acc.set (i + y.length) c) x (x.length : Int) ((i : Int) + 1)) (fun k => ?_) (next _ ?_ ?_ ?_ ?_)
    · simp only [limb_Mul.l1]
      rw [if_neg (by omega), hw, if_pos (by omega), if_pos (by omega), wrap64_in (x := (i : Int) + 1) (by omega) (by omega), Int.toNat_natCast, Int.emod_eq_of_lt hc hc']
    · exact dig_set ha hc hc' _
    · rw [List.length_set, hl]
    · intro p hp
      rw [rd_set_ne c (by omega)]
      exact hz p (by omega)
    · rw [val_setP _ _ (show i + y.length < acc.length by omega), hz _ (Nat.le_refl _), Int.sub_zero, HV.out, List.take_length, val_take_succP _ hi]
      grind
  | succ d ih =>
    intro j acc c hj ha hl hz hc hc' hv
    have HV := Aside0.mk hv
    clear hv
    have hjl : j < y.length := by omega
    have hw : wrap64 ((i : Int) + (j : Int)) = ((i + j : Nat) : Int) := by rw [wrap64_in] <;> omega
    have h1 := rd_lt hx hi
    have h2 := rd_lt hy hjl
    have h3 := rd_lt ha (show i + j < acc.length by omega)
    have h4 : 0 ≤ rd x (i : Int) * rd y (j : Int) := Int.mul_nonneg h1.1 h2.1
    have h5 : rd x (i : Int) * rd y (j : Int) ≤ 4294967295 * 4294967295 := Int.mul_le_mul (by omega) (by omega) h2.1 (by omega)
    have e1 : IntKind.u64.wrap (c + (IntKind.u64.wrap ((IntKind.u64.wrap ((IntKind.u64.wrap (rd x (i : Int))) * (IntKind.u64.wrap (rd y (j : Int))))) + (IntKind.u64.wrap (rd acc ((i + j : Nat) : Int)))))) = c + (rd x (i : Int) * rd y (j : Int) + rd acc ((i + j : Nat) : Int)) := by
      rw [u64_in h1.1 (by omega), u64_in h2.1 (by omega), u64_in h3.1 (by omega), u64_in h4 (by omega), u64_in (x := rd x (i : Int) * rd y (j : Int) + rd acc ((i + j : Nat) : Int)) (by omega) (by omega), u64_in (by omega) (by omega)]
    obtain ⟨T, hT⟩ : ∃ T, T = c + (rd x (i : Int) * rd y (j : Int) + rd acc ((i + j : Nat) : Int)) := ⟨_, rfl⟩
    refine Ev.step (f := fun k => limb_Mul.l1 k y (acc.set (i + j) (T % 4294967296)) (i : Int) (rd x (i : Int)) (T / 4294967296) x (x.length : Int) (i : Int) y (y.length : Int) ((j : Int) + 1)) (fun k => ?_) ?_
    · simp only [limb_Mul.l1]
      rw [if_pos (by omega), if_pos (by omega), if_pos (by omega), hw, if_pos (by omega), if_pos (by omega), e1, ← hT, wrap64_in (x := (j : Int) + 1) (by omega) (by omega), Int.toNat_natCast]
    · have := ih (j + 1) (acc.set (i + j) (T % 4294967296)) (T / 4294967296) (by omega) (dig_set ha (by omega) (by omega) _) (by rw [List.length_set, hl]) ?_ (by omega) (by omega) ?_
      · rw [show ((j + 1 : Nat) : Int) = (j : Int) + 1 by omega] at this
        exact this
      · intro p hp
        rw [rd_set_ne _ (by omega)]
        exact hz p hp
      · have hs := row_step (b := 4294967296) hT (val_setP 4294967296 (T % 4294967296) (show i + j < acc.length by omega))
        rw [show i + (j + 1) = (i + j) + 1 by omega, pw_succ, hs, HV.out, val_take_succP _ hjl, pw_add]
        grind
theorem mul_outer (x y : List Int) (hx : dig 4294967296 x) (hy : dig 4294967296 y) (lx : x.length ≤ 1099511627776) (ly : y.length ≤ 1099511627776) (d : Nat) :
    ∀ i acc, i + d = x.length → dig 4294967296 acc → acc.length = x.length + y.length → (∀ p : Nat, i + y.length ≤ p → rd acc (p : Int) = 0) → val 4294967296 acc = val 4294967296 (x.take i) * val 4294967296 y →
      ∃ acc', dig 4294967296 acc' ∧ val 4294967296 acc' = val 4294967296 x * val 4294967296 y ∧ Ev (fun k => limb_Mul.l0 k y acc x (x.length : Int) (i : Int)) (strip acc') := by
  induction d with
  | zero =>
    intro i acc hi ha hl hz hv
    obtain rfl : i = x.length := by omega
    rw [List.take_length] at hv
    refine ⟨acc, ha, hv, Ev.step (f := fun k => (limb_trim.f k acc).bind fun t => some t) (fun k => ?_) (Ev.bind (ev_trim acc (by omega)) (Ev.now _))⟩
    simp only [limb_Mul.l0]
    rw [if_neg (by omega)]
  | succ d ih =>
    intro i acc hi ha hl hz hv
    have hil : i < x.length := by omega
    -- the row's end, whatever it is: the list is fixed by its value
    have key : ∀ acc2, dig 4294967296 acc2 → acc2.length = x.length + y.length → (∀ p : Nat, i + 1 + y.length ≤ p → rd acc2 (p : Int) = 0) → val 4294967296 acc2 = val 4294967296 (x.take (i + 1)) * val 4294967296 y → Ev (fun k => limb_Mul.l0 k y acc2 x (x.length : Int) ((i : Int) + 1)) (digs 4294967296 (val 4294967296 x * val 4294967296 y).toNat) := by
      intro acc2 h1 h2 h3 h4
      obtain ⟨acc', g1, g2, g3⟩ := ih (i + 1) acc2 (by omega) h1 h2 h3 h4
      rw [show ((i + 1 : Nat) : Int) = (i : Int) + 1 by omega] at g3
      have e := strip_digs (b := 4294967296) (by decide) g1
      rw [← g2]
      exact e ▸ g3
    have hrow := mul_inner x y hx hy lx ly i hil _ key y.length 0 acc 0 (by omega) ha hl hz (by omega) (by omega) (by
      rw [hv, List.take_zero]; simp [val])
    have hx0 := val_nonneg hx
    have hy0 := val_nonneg hy
    have hp : 0 ≤ val 4294967296 x * val 4294967296 y := Int.mul_nonneg hx0 hy0
    refine ⟨digs 4294967296 (val 4294967296 x * val 4294967296 y).toNat, dig_digs (by decide) _, ?_, ?_⟩
    · have := val_digs (b := 4294967296) (by decide) (val 4294967296 x * val 4294967296 y).toNat
      rw [Int.toNat_of_nonneg hp] at this
      exact this
    · rw [strip_of_digs (by decide)]
      refine Ev.step (f := fun k => limb_Mul.l1 k y acc (i : Int) (rd x (i : Int)) 0 x (x.length : Int) (i : Int) y (y.length : Int) ((0 : Nat) : Int)) (fun k => ?_) hrow
      simp only [limb_Mul.l0]
      rw [if_pos (by omega), if_pos (by omega), if_pos (by omega)]
      rfl
theorem ev_limbMul (m n : Nat) (hm : (digs 4294967296 m).length ≤ 1099511627776) (hn : (digs 4294967296 n).length ≤ 1099511627776) : Ev (fun k => limb_Mul.f k (digs 4294967296 m) (digs 4294967296 n)) (digs 4294967296 (m * n)) := by
  have hw : wrap64 (((digs 4294967296 m).length : Int) + ((digs 4294967296 n).length : Int)) = (((digs 4294967296 m).length + (digs 4294967296 n).length : Nat) : Int) := by rw [wrap64_in] <;> omega
  unfold limb_Mul.f
  rw [hw, Int.toNat_natCast]
  refine ev_pos (by omega) (ev_pos (by omega) ?_)
  obtain ⟨acc', g1, g2, g3⟩ := mul_outer _ _ (dig_digs (b := 4294967296) (by decide) m) (dig_digs (b := 4294967296) (by decide) n) hm hn (digs 4294967296 m).length 0 (List.replicate ((digs 4294967296 m).length + (digs 4294967296 n).length) 0) (by omega) (dig_replicate (by decide) _) (by simp) (fun p _ => rd_replicate _ _) (by rw [val_replicate]; simp [val])
  have e1 := val_digs (b := 4294967296) (by decide) m
  have e2 := val_digs (b := 4294967296) (by decide) n
  have e3 : val 4294967296 acc' = ((m * n : Nat) : Int) := by
    rw [g2]
    rw [show val (4294967296 : Int) (digs 4294967296 m) = m from e1, show val (4294967296 : Int) (digs 4294967296 n) = n from e2]
    exact (Int.natCast_mul m n).symm
  rw [digs_of (b := 4294967296) (by decide) g1 e3] at g3
  exact g3
theorem neg_mul (x y : Int) : ((neg x != neg y) && decide (mag 4294967296 (x * y) ≠ [])) = neg (x * y) := by
  by_cases h0 : x * y = 0
  · rw [h0]; simp [mag, digs_zero, neg]
  · have hne : mag 4294967296 (x * y) ≠ [] := fun h => h0 ((mag_nil (by decide)).1 h)
    have hx : x ≠ 0 := by rintro rfl; simp at h0
    have hy : y ≠ 0 := by rintro rfl; simp at h0
    simp only [hne, ne_eq, not_false_eq_true, decide_true, Bool.and_true, neg]
    by_cases h1 : x < 0 <;> by_cases h2 : y < 0
    · have : 0 < x * y := Int.mul_pos_of_neg_of_neg h1 h2
      simp [h1, h2]; omega
    · have : x * y < 0 := Int.mul_neg_of_neg_of_pos h1 (by omega)
      simp [h1, h2, this]
    · have : x * y < 0 := Int.mul_neg_of_pos_of_neg (by omega) h2
      simp [h1, h2, this]
    · have : 0 < x * y := Int.mul_pos (by omega) (by omega)
      simp [h1, h2]; omega
theorem ev_mul (x y : Int) (hx : (mag 4294967296 x).length ≤ 1099511627776) (hy : (mag 4294967296 y).length ≤ 1099511627776) : Ev (fun k => integer_Int_Mul.f k (neg x) (mag 4294967296 x) (neg y) (mag 4294967296 y)) (neg (x * y), mag 4294967296 (x * y)) := by
  unfold integer_Int_Mul.f
  refine Ev.bind (ev_limbMul x.natAbs y.natAbs hx hy) ?_
  have e : digs 4294967296 (x.natAbs * y.natAbs) = mag 4294967296 (x * y) := by rw [mag, Int.natAbs_mul]
  rw [e]
  simp only [made_at, Option.bind_some, neg_mul]
  exact Ev.now _
end Go.Proofs.YtakmkhokbcjapaaDoor.IntA
end

section
/- The program's numbers: order, bits, powers. -/
namespace Go.Proofs.YtakmkhokbcjapaaDoor.IntB
open Go Go.RowKit Go.Proofs.YtakmkhokbcjapaaDoorW.PrintWords Go.Proofs.YtakmkhokbcjapaaDoorW.PrintLast Go.Proofs.YtakmkhokbcjapaaDoor.XA Go.Proofs.YtakmkhokbcjapaaDoor.Nums Go.Proofs.YtakmkhokbcjapaaDoor.Evs Go.Proofs.YtakmkhokbcjapaaDoor.IntA
set_option linter.unusedVariables false
set_option linter.unusedSimpArgs false

theorem cmp_loop (l m : List Int) (hl : dig 4294967296 l) (hm : dig 4294967296 m) (hs : l.length ≤ 4611686018427387904) (he : l.length = m.length) : ∀ n : Nat, n ≤ l.length → Ev (fun k => limb_Cmp.l0 k l m ((n : Int) - 1)) (cmp3 (val 4294967296 (l.take n)) (val 4294967296 (m.take n)))
  | 0, _ => by
    refine Ev.step (f := fun _ => some 0) (fun k => ?_) (by simpa [val, cmp3] using Ev.now _)
    simp only [limb_Cmp.l0]
    rw [if_neg (by omega)]
  | n + 1, h => by
    rw [cmp3_take (by omega) hl hm (show n < l.length by omega) (show n < m.length by omega)]
    refine Ev.step (f := fun k => if rd l (n : Int) < rd m (n : Int) then some (-1) else if rd l (n : Int) > rd m (n : Int) then some 1 else limb_Cmp.l0 k l m ((n : Int) - 1)) (fun k => ?_) ?_
    · simp only [limb_Cmp.l0]
      have e : ((n + 1 : Nat) : Int) - 1 = n := by omega
      rw [e, if_pos (by omega), if_pos (by omega), if_pos (by omega), if_pos (by omega), wrap64_in (by omega) (by omega)]
    · by_cases c1 : rd l (n : Int) < rd m (n : Int)
      · rw [if_pos c1]; exact ev_pos c1 (Ev.now _)
      · rw [if_neg c1]
        refine ev_neg c1 ?_
        by_cases c2 : rd l (n : Int) > rd m (n : Int)
        · rw [if_pos c2]; exact ev_pos c2 (Ev.now _)
        · rw [if_neg c2]; exact ev_neg c2 (cmp_loop l m hl hm hs he n (by omega))
theorem ev_limbCmp (m n : Nat) (hm : (digs 4294967296 m).length ≤ 1099511627776) (hn : (digs 4294967296 n).length ≤ 1099511627776) : Ev (fun k => limb_Cmp.f k (digs 4294967296 m) (digs 4294967296 n)) (cmp3 m n) := by
  unfold limb_Cmp.f
  have t1 := ev_trim (digs 4294967296 m) (by omega)
  have t2 := ev_trim (digs 4294967296 n) (by omega)
  rw [strip_of_digs (by decide)] at t1 t2
  refine Ev.bind t1 (Ev.bind t2 ?_)
  by_cases c1 : ((digs 4294967296 m).length : Int) < (digs 4294967296 n).length
  · refine ev_pos c1 ?_
    have : m < n := by
      rcases Nat.lt_or_ge m n with h | h
      · exact h
      · have := digs_len_mono (b := 4294967296) (by decide) h
        omega
    rw [cmp3_lt (by omega)]
    exact Ev.now _
  · refine ev_neg c1 ?_
    by_cases c2 : ((digs 4294967296 m).length : Int) > (digs 4294967296 n).length
    · refine ev_pos c2 ?_
      have : n < m := by
        rcases Nat.lt_or_ge n m with h | h
        · exact h
        · have := digs_len_mono (b := 4294967296) (by decide) h
          omega
      rw [cmp3_gt (by omega)]
      exact Ev.now _
    · refine ev_neg c2 ?_
      have e : (digs 4294967296 m).length = (digs 4294967296 n).length := by omega
      have := cmp_loop _ _ (dig_digs (b := 4294967296) (by decide) m) (dig_digs (b := 4294967296) (by decide) n) (by omega) e (digs 4294967296 m).length (Nat.le_refl _)
      rw [List.take_length] at this
      rw [e, List.take_length] at this
      rw [show val (4294967296 : Int) (digs 4294967296 m) = m from val_digs (b := 4294967296) (by decide) m, show val (4294967296 : Int) (digs 4294967296 n) = n from val_digs (b := 4294967296) (by decide) n] at this
      rw [e, wrap64_in (by omega) (by omega)]
      exact this
theorem ev_cmp (x y : Int) (hx : (mag 4294967296 x).length ≤ 1099511627776) (hy : (mag 4294967296 y).length ≤ 1099511627776) : Ev (fun k => integer_Int_Cmp.f k (neg x) (mag 4294967296 x) (neg y) (mag 4294967296 y)) (cmp3 x y) := by
  have st : ∀ (u : Bool), Ev (fun k => integer_Int_Cmp.j0 k u (neg x) (mag 4294967296 x) (neg y) (mag 4294967296 y)) (if u = true then cmp3 y.natAbs x.natAbs else if neg x = true then -1 else if neg y = true then 1 else cmp3 x.natAbs y.natAbs) := by
    intro u
    refine Ev.step (f := fun k => if u = true then ((limb_Cmp.f k (mag 4294967296 y) (mag 4294967296 x)).bind fun t493 => (some t493)) else (if neg x = true then (some (-1)) else (if neg y = true then (some 1) else ((limb_Cmp.f k (mag 4294967296 x) (mag 4294967296 y)).bind fun t494 => (some t494))))) (fun k => by simp only [integer_Int_Cmp.j0]) ?_
    by_cases h1 : u = true
    · rw [if_pos h1]; exact ev_pos h1 (Ev.bind (ev_limbCmp _ _ hy hx) (Ev.now _))
    · rw [if_neg h1]; refine ev_neg h1 ?_
      by_cases h2 : neg x = true
      · rw [if_pos h2]; exact ev_pos h2 (Ev.now _)
      · rw [if_neg h2]; refine ev_neg h2 ?_
        by_cases h3 : neg y = true
        · rw [if_pos h3]; exact ev_pos h3 (Ev.now _)
        · rw [if_neg h3]; exact ev_neg h3 (Ev.bind (ev_limbCmp _ _ hx hy) (Ev.now _))
  unfold integer_Int_Cmp.f
  by_cases h1 : neg x = true
  · refine ev_pos h1 ?_
    have := st (neg y)
    have e : (if neg y = true then cmp3 y.natAbs x.natAbs else if neg x = true then -1 else if neg y = true then 1 else cmp3 x.natAbs y.natAbs) = cmp3 x y := by
      simp only [neg, decide_eq_true_eq] at h1 ⊢
      by_cases h2 : y < 0
      · rw [if_pos h2]; unfold cmp3; split <;> split <;> first | omega | (split <;> first | omega | (split <;> omega))
      · rw [if_neg h2, if_pos h1, cmp3_lt (by omega)]
    rw [e] at this
    exact this
  · refine ev_neg h1 ?_
    have := st false
    have e : (if false = true then cmp3 y.natAbs x.natAbs else if neg x = true then -1 else if neg y = true then 1 else cmp3 x.natAbs y.natAbs) = cmp3 x y := by
      simp only [neg, decide_eq_true_eq, Bool.false_eq_true, if_false] at h1 ⊢
      rw [if_neg h1]
      by_cases h2 : y < 0
      · rw [if_pos h2, cmp3_gt (by omega)]
      · rw [if_neg h2, show (x.natAbs : Int) = x by omega, show (y.natAbs : Int) = y by omega]
    rw [e] at this
    exact this
def sgn (x : Int) : Int := if x = 0 then 0 else if x < 0 then -1 else 1
theorem sign_at (x : Int) : integer_Int_Sign.f (neg x) (mag 4294967296 x) = some (sgn x) := by
  unfold integer_Int_Sign.f sgn
  have := mag_len_zero (b := 4294967296) (by decide) (x := x)
  by_cases h : x = 0
  · rw [if_pos (by have := this.2 h; omega), if_pos h]
  · rw [if_neg (by have := fun h' => h (this.1 h'); omega), if_neg h]
    by_cases h2 : x < 0
    · rw [if_pos (by simp [neg, h2]), if_pos h2]
    · rw [if_neg (by simp [neg, h2]), if_neg h2]
end Go.Proofs.YtakmkhokbcjapaaDoor.IntB
end

section
/- The program's numbers: sums. -/
namespace Go.Proofs.YtakmkhokbcjapaaDoor.IntC
open Go Go.RowKit Go.Proofs.YtakmkhokbcjapaaDoorW.PrintWords Go.Proofs.YtakmkhokbcjapaaDoorW.PrintLast Go.Proofs.YtakmkhokbcjapaaDoor.XA Go.Proofs.YtakmkhokbcjapaaDoor.Nums Go.Proofs.YtakmkhokbcjapaaDoor.Evs Go.Proofs.YtakmkhokbcjapaaDoor.IntA Go.Proofs.YtakmkhokbcjapaaDoor.IntB
set_option linter.unusedVariables false
set_option linter.unusedSimpArgs false
theorem take_out {l : List Int} {i : Nat} (h : l.length ≤ i) : l.take (i + 1) = l.take i := by rw [List.take_of_length_le h, List.take_of_length_le (by omega)]
theorem val_take_next (b : Int) (l : List Int) (i : Nat) : val b (l.take (i + 1)) = val b (l.take i) + rd l (i : Int) * pw b i := by
  rcases Nat.lt_or_ge i l.length with h | h
  · exact val_take_succP b h
  · rw [take_out h, rd_out h]; omega
theorem carry {b c T P v : Int} (hT : T = (T / b) * b + T % b) : (v + (T % b - 0) * P) + (T / b) * (P * b) = v + T * P := by
  have e : (T / b) * (P * b) = ((T / b) * b) * P := by rw [Int.mul_comm P b, ← Int.mul_assoc]
  rw [e, Int.sub_zero, Int.add_assoc, ← Int.add_mul, Int.add_comm (T % b), ← hT]
theorem add_loop (x y : List Int) (hx : dig 4294967296 x) (hy : dig 4294967296 y) (lx : x.length ≤ 1099511627776) (ly : y.length ≤ x.length) (d : Nat) :
    ∀ (i : Nat) (acc : List Int) (c : Int), i + d = x.length → dig 4294967296 acc → acc.length = x.length + 1 → (∀ p : Nat, i ≤ p → rd acc (p : Int) = 0) → 0 ≤ c → c ≤ 1 → val 4294967296 acc + c * pw 4294967296 i = val 4294967296 (x.take i) + val 4294967296 (y.take i) →
      Ev (fun k => limb_Add.l0 k x y acc c x (x.length : Int) (i : Int)) (digs 4294967296 (val 4294967296 x + val 4294967296 y).toNat) := by
  induction d with
  | zero =>
    intro i acc c hi ha hl hz c0 c1 hv
    obtain rfl : i = x.length := by omega
    rw [List.take_length, List.take_of_length_le ly] at hv
    have hd : dig 4294967296 (acc.set x.length (c % 4294967296)) := dig_set ha (by omega) (by omega) _
    have e : val 4294967296 (acc.set x.length (c % 4294967296)) = ((val 4294967296 x + val 4294967296 y).toNat : Nat) := by
      rw [val_setP 4294967296 (c % 4294967296) (l := acc) (n := x.length) (by omega), hz x.length (Nat.le_refl _), Int.sub_zero, Int.emod_eq_of_lt c0 (by omega), hv]
      have p1 : (0 : Int) ≤ val 4294967296 x := val_nonneg (b := 4294967296) hx
      have p2 : (0 : Int) ≤ val 4294967296 y := val_nonneg (b := 4294967296) hy
      omega
    refine Ev.step (f := fun k => (limb_trim.f k (acc.set x.length (c % 4294967296))).bind fun t => some t) (fun k => ?_) (Ev.bind (ev_trim _ (by simp; omega)) ?_)
    · simp only [limb_Add.l0]
      rw [if_neg (by omega), if_pos (by omega), if_pos (by omega)]
      rfl
    · rw [digs_of (b := 4294967296) (by decide) hd e]
      exact Ev.now _
  | succ d ih =>
    intro i acc c hi ha hl hz c0 c1 hv
    have hil : i < x.length := by omega
    have hxi := rd_lt hx hil
    have hyi : 0 ≤ rd y (i : Int) ∧ rd y (i : Int) < 4294967296 := by
      rcases Nat.lt_or_ge i y.length with h | h
      · exact rd_lt hy h
      · rw [rd_out h]; omega
    have next := ih (i + 1) (acc.set i ((c + rd x (i : Int) + rd y (i : Int)) % 4294967296)) ((c + rd x (i : Int) + rd y (i : Int)) / 4294967296) (by omega) (dig_set ha (by omega) (by omega) _) (by simp [hl]) (fun p hp => by rw [rd_set_ne _ (by omega)]; exact hz p (by omega)) (by omega) (by omega) (by
      rw [val_setP 4294967296 _ (l := acc) (n := i) (by omega), hz i (Nat.le_refl _), pw_succ, carry (c := c) (by omega), val_take_next, val_take_next, Int.add_mul, Int.add_mul]
      omega)
    refine Ev.step (f := fun k => limb_Add.l0 k x y (acc.set i ((c + rd x (i : Int) + rd y (i : Int)) % 4294967296)) ((c + rd x (i : Int) + rd y (i : Int)) / 4294967296) x (x.length : Int) ((i + 1 : Nat) : Int)) (fun k => ?_) next
    simp only [limb_Add.l0]
    rw [if_pos (by omega), if_pos (by omega), if_pos (by omega), u64_in (x := rd x (i : Int)) (by omega) (by omega), u64_in (x := c + rd x (i : Int)) (by omega) (by omega), wrap64_in (x := (i : Int) + 1) (by omega) (by omega)]
    by_cases h : (i : Int) < (y.length : Int)
    · rw [if_pos h, if_pos (by omega), u64_in (x := rd y (i : Int)) (by omega) (by omega), u64_in (x := c + rd x (i : Int) + rd y (i : Int)) (by omega) (by omega)]
      rfl
    · rw [if_neg h, if_pos (by omega), rd_out (l := y) (n := i) (by omega), Int.add_zero]
      rfl
theorem add_g (m n : Nat) (hm : (digs 4294967296 m).length ≤ 1099511627776) (hn : (digs 4294967296 n).length ≤ (digs 4294967296 m).length) : Ev (fun k => limb_Add.g k (digs 4294967296 m) (digs 4294967296 n)) (digs 4294967296 (m + n)) := by
  have hw : wrap64 (((digs 4294967296 m).length : Int) + 1) = (((digs 4294967296 m).length + 1 : Nat) : Int) := by rw [wrap64_in] <;> omega
  unfold limb_Add.g
  rw [hw, Int.toNat_natCast]
  refine ev_pos (by omega) (ev_pos (by omega) ?_)
  have h := add_loop _ _ (dig_digs (b := 4294967296) (by decide) m) (dig_digs (b := 4294967296) (by decide) n) hm hn (digs 4294967296 m).length 0 (List.replicate ((digs 4294967296 m).length + 1) 0) 0 (by omega) (dig_replicate (by decide) _) (by simp) (fun p _ => rd_replicate _ _) (by omega) (by omega) (by rw [val_replicate]; simp [val])
  rw [show val (4294967296 : Int) (digs 4294967296 m) = m from val_digs (b := 4294967296) (by decide) m, show val (4294967296 : Int) (digs 4294967296 n) = n from val_digs (b := 4294967296) (by decide) n] at h
  rw [show ((m : Int) + n).toNat = m + n by omega] at h
  exact h
theorem ev_limbAdd (m n : Nat) (hm : (digs 4294967296 m).length ≤ 1099511627776) (hn : (digs 4294967296 n).length ≤ 1099511627776) : Ev (fun k => limb_Add.f k (digs 4294967296 m) (digs 4294967296 n)) (digs 4294967296 (m + n)) := by
  unfold limb_Add.f
  by_cases h : ((digs 4294967296 m).length : Int) < ((digs 4294967296 n).length : Int)
  · refine ev_pos h ?_
    rw [Nat.add_comm]
    exact add_g n m hn (by omega)
  · exact ev_neg h (add_g m n hm (by omega))
theorem bits0 : Go.bits .and .u64 0 1 = 0 := by decide +kernel
theorem bits1 : Go.bits .and .u64 4294967295 1 = 1 := by decide +kernel
/-- A difference, as the code makes it: the limb, and what is borrowed. -/
theorem low {D : Int} (h0 : -4294967296 ≤ D) (h1 : D < 4294967296) : IntKind.u64.wrap D % 4294967296 = D % 4294967296 ∧ Go.bits .and .u64 (IntKind.u64.wrap D / 4294967296) 1 = -(D / 4294967296) := by
  rcases Int.lt_or_le D 0 with h | h
  · have e : IntKind.u64.wrap D = D + 18446744073709551616 := by
      simp [IntKind.wrap, IntKind.bits, IntKind.signed]; omega
    rw [e, show (D + 18446744073709551616) / 4294967296 = 4294967295 by omega, bits1]
    omega
  · rw [u64_in h (by omega), show D / 4294967296 = 0 by omega, bits0]
    omega
theorem sub_loop (x y : List Int) (hx : dig 4294967296 x) (hy : dig 4294967296 y) (lx : x.length ≤ 1099511627776) (hge : val 4294967296 y ≤ val 4294967296 x) (d : Nat) :
    ∀ (i : Nat) (acc : List Int) (c : Int), i + d = x.length → dig 4294967296 acc → acc.length = x.length → (∀ p : Nat, i ≤ p → rd acc (p : Int) = 0) → 0 ≤ c → c ≤ 1 → val 4294967296 acc - c * pw 4294967296 i = val 4294967296 (x.take i) - val 4294967296 (y.take i) → (i = x.length → c = 0 → val 4294967296 acc = val 4294967296 x - val 4294967296 (y.take i)) → y.length ≤ x.length →
      Ev (fun k => limb_Sub.l0 k y acc c x (x.length : Int) (i : Int)) (digs 4294967296 (val 4294967296 x - val 4294967296 y).toNat, 0) := by
  induction d with
  | zero =>
    intro i acc c hi ha hl hz c0 c1 hv _ ly
    obtain rfl : i = x.length := by omega
    rw [List.take_length, List.take_of_length_le ly] at hv
    have hlt := val_ltP (by decide) ha
    rw [hl] at hlt
    have hc : c = 0 := by
      rcases Int.lt_or_le 0 c with h | h
      · obtain rfl : c = 1 := by omega
        omega
      · omega
    subst hc
    have e : val 4294967296 acc = ((val 4294967296 x - val 4294967296 y).toNat : Nat) := by omega
    refine Ev.step (f := fun k => (limb_trim.f k acc).bind fun t => some (t, 0)) (fun k => ?_) (Ev.bind (ev_trim _ (by omega)) ?_)
    · simp only [limb_Sub.l0]
      rw [if_neg (by omega)]
    · rw [digs_of (b := 4294967296) (by decide) ha e]
      exact Ev.now _
  | succ d ih =>
    intro i acc c hi ha hl hz c0 c1 hv _ ly
    have hil : i < x.length := by omega
    have hxi := rd_lt hx hil
    have hyi : 0 ≤ rd y (i : Int) ∧ rd y (i : Int) < 4294967296 := by
      rcases Nat.lt_or_ge i y.length with h | h
      · exact rd_lt hy h
      · rw [rd_out h]; omega
    obtain ⟨D, hD⟩ : ∃ D, D = rd x (i : Int) - (c + rd y (i : Int)) := ⟨_, rfl⟩
    obtain ⟨lo1, lo2⟩ := low (D := D) (by omega) (by omega)
    have hv2 : val 4294967296 (acc.set i (D % 4294967296)) - (-(D / 4294967296)) * pw 4294967296 (i + 1) = val 4294967296 (x.take (i + 1)) - val 4294967296 (y.take (i + 1)) := by
      have hc := carry (b := 4294967296) (c := c) (T := D) (P := pw 4294967296 i) (v := val 4294967296 acc) (by omega)
      rw [val_setP 4294967296 _ (l := acc) (n := i) (by omega), hz i (Nat.le_refl _), pw_succ, Int.neg_mul, Int.sub_neg, hc, val_take_next, val_take_next, hD, Int.sub_mul, Int.add_mul]
      omega
    have next := ih (i + 1) (acc.set i (D % 4294967296)) (-(D / 4294967296)) (by omega) (dig_set ha (by omega) (by omega) _) (by simp [hl]) (fun p hp => by rw [rd_set_ne _ (by omega)]; exact hz p (by omega)) (by omega) (by omega) hv2 (fun h1 h2 => by
      rw [h2] at hv2
      rw [h1, List.take_length] at hv2
      rw [h1]
      omega) ly
    refine Ev.step (f := fun k => limb_Sub.l0 k y (acc.set i (D % 4294967296)) (-(D / 4294967296)) x (x.length : Int) ((i + 1 : Nat) : Int)) (fun k => ?_) next
    simp only [limb_Sub.l0]
    rw [if_pos (by omega), if_pos (by omega), if_pos (by omega), u64_in (x := rd x (i : Int)) (by omega) (by omega), wrap64_in (x := (i : Int) + 1) (by omega) (by omega)]
    by_cases h : (i : Int) < (y.length : Int)
    · rw [if_pos h, if_pos (by omega), u64_in (x := rd y (i : Int)) (by omega) (by omega), u64_in (x := c + rd y (i : Int)) (by omega) (by omega), ← hD, lo1, lo2]
      rfl
    · have e0 : rd y (i : Int) = 0 := rd_out (by omega)
      rw [if_neg h, if_pos (by omega), show rd x (i : Int) - c = D by omega, lo1, lo2]
      rfl
theorem ev_limbSub (m n : Nat) (hm : (digs 4294967296 m).length ≤ 1099511627776) (hn : (digs 4294967296 n).length ≤ 1099511627776) (h : n ≤ m) : Ev (fun k => limb_Sub.f k (digs 4294967296 m) (digs 4294967296 n)) (digs 4294967296 (m - n), 0) := by
  unfold limb_Sub.f
  refine Ev.bind (ev_limbCmp m n hm hn) (ev_neg (by unfold cmp3; split <;> (try split) <;> omega) (ev_pos (by omega) (ev_pos (by omega) ?_)))
  have e1 : val (4294967296 : Int) (digs 4294967296 m) = m := val_digs (b := 4294967296) (by decide) m
  have e2 : val (4294967296 : Int) (digs 4294967296 n) = n := val_digs (b := 4294967296) (by decide) n
  have hl := digs_len_mono (b := 4294967296) (by decide) h
  have g := sub_loop _ _ (dig_digs (b := 4294967296) (by decide) m) (dig_digs (b := 4294967296) (by decide) n) hm (by rw [e1, e2]; omega) (digs 4294967296 m).length 0 (List.replicate (digs 4294967296 m).length 0) 0 (by omega) (dig_replicate (by decide) _) (by simp) (fun p _ => rd_replicate _ _) (by omega) (by omega) (by rw [val_replicate]; simp [val]) (fun h0 _ => by
    rw [val_replicate, List.take_zero]
    have : digs 4294967296 m = [] := List.length_eq_zero_iff.1 h0.symm
    rw [this]; simp [val]) hl
  rw [e1, e2, show ((m : Int) - n).toNat = m - n by omega] at g
  rw [Int.toNat_natCast]
  exact g
theorem made_neg (s : Bool) (z : Int) (h : z = 0 ∨ s = neg z) : (s && decide (mag 4294967296 z ≠ [])) = neg z := by
  by_cases hz : z = 0
  · subst hz; simp [mag, digs_zero, neg]
  · have hne : mag 4294967296 z ≠ [] := fun h => hz ((mag_nil (by decide)).1 h)
    simp only [hne, ne_eq, not_false_eq_true, decide_true, Bool.and_true]
    exact h.resolve_left hz
theorem ev_add (x y : Int) (hx : (mag 4294967296 x).length ≤ 1099511627776) (hy : (mag 4294967296 y).length ≤ 1099511627776) : Ev (fun k => integer_Int_Add.f k (neg x) (mag 4294967296 x) (neg y) (mag 4294967296 y)) (neg (x + y), mag 4294967296 (x + y)) := by
  have fin : ∀ (s : Bool) (n : Nat), n = (x + y).natAbs → (x + y = 0 ∨ s = neg (x + y)) → Ev (fun k => (integer_made.f s (digs 4294967296 n)).bind fun bt => (some (bt.1, bt.2))) (neg (x + y), mag 4294967296 (x + y)) := by
    intro s n hn hs
    subst hn
    rw [made_at]
    have := made_neg s (x + y) hs
    rw [show digs 4294967296 (x + y).natAbs = mag 4294967296 (x + y) from rfl, this]
    exact Ev.now _
  unfold integer_Int_Add.f
  by_cases hs : (neg x == neg y) = true
  · refine ev_pos hs (Ev.bind (ev_limbAdd _ _ hx hy) ?_)
    have h2 : neg x = neg y := by simpa using hs
    unfold neg at h2 ⊢
    have h3 : x < 0 ↔ y < 0 := by simpa using h2
    refine fin _ _ (by omega) ?_
    unfold neg
    by_cases h0 : x + y = 0
    · exact .inl h0
    · right
      by_cases hx0 : x < 0
      · rw [decide_eq_true hx0, decide_eq_true (by have := h3.1 hx0; omega)]
      · rw [decide_eq_false hx0, decide_eq_false (by have := fun h => hx0 (h3.2 h); omega)]
  · refine ev_neg hs ?_
    have h2 : ¬ (x < 0 ↔ y < 0) := by
      intro h; apply hs; unfold neg; simpa using h
    refine Ev.bind (ev_limbCmp x.natAbs y.natAbs hx hy) ?_
    by_cases hc : x.natAbs < y.natAbs
    · rw [cmp3_lt (by omega)]
      refine ev_pos (by decide) (Ev.bind (ev_limbSub y.natAbs x.natAbs hy hx (by omega)) ?_)
      refine fin _ _ (by omega) (.inr ?_)
      unfold neg
      by_cases hy0 : y < 0
      · rw [decide_eq_true hy0, decide_eq_true (by omega)]
      · rw [decide_eq_false hy0, decide_eq_false (by omega)]
    · refine ev_neg (by unfold cmp3; split <;> (try split) <;> omega) (Ev.bind (ev_limbSub x.natAbs y.natAbs hx hy (by omega)) ?_)
      refine fin _ _ (by omega) ?_
      by_cases h0 : x + y = 0
      · exact .inl h0
      · right
        unfold neg
        by_cases hx0 : x < 0
        · rw [decide_eq_true hx0, decide_eq_true (by omega)]
        · rw [decide_eq_false hx0, decide_eq_false (by omega)]
end Go.Proofs.YtakmkhokbcjapaaDoor.IntC
end

section
/- Lists told by their places. -/
namespace Go.Proofs.YtakmkhokbcjapaaDoor.Tabs
set_option linter.unusedVariables false
section
variable {α β : Type}
def tab (n : Nat) (g : Nat → α) : List α := (List.range n).map g
theorem tab_length (n : Nat) (g : Nat → α) : (tab n g).length = n := by simp [tab]
theorem tab_succ (n : Nat) (g : Nat → α) : tab (n + 1) g = tab n g ++ [g n] := by simp [tab, List.range_succ]
theorem tab_getElem? {n i : Nat} (g : Nat → α) (h : i < n) : (tab n g)[i]? = some (g i) := by
  unfold tab; rw [List.getElem?_map, List.getElem?_range h]; rfl
theorem tab_getD {n i : Nat} (g : Nat → α) (d : α) (h : i < n) : (tab n g).getD i d = g i := by
  rw [List.getD_eq_getElem?_getD, tab_getElem? g h]; rfl
theorem tab_congr {n : Nat} {g h : Nat → α} (e : ∀ i, i < n → g i = h i) : tab n g = tab n h := by
  unfold tab; apply List.map_congr_left; intro i hi; exact e i (List.mem_range.1 hi)
theorem tab_ext {n : Nat} {l : List α} {g : Nat → α} (hl : l.length = n) (h : ∀ i, i < n → l[i]? = some (g i)) : l = tab n g := by
  apply List.ext_getElem?
  intro i
  by_cases hi : i < n
  · rw [h i hi, tab_getElem? g hi]
  · rw [List.getElem?_eq_none (by omega), List.getElem?_eq_none (by rw [tab_length]; omega)]
theorem tab_set (n i : Nat) (v : α) (g : Nat → α) : (tab n g).set i v = tab n (fun j => if j = i then v else g j) := by
  refine tab_ext (by rw [List.length_set, tab_length]) ?_
  intro j hj
  by_cases h : j = i
  · subst h; rw [List.getElem?_set_self (by rw [tab_length]; exact hj), if_pos rfl]
  · rw [List.getElem?_set_ne (fun h' => h h'.symm), tab_getElem? g hj, if_neg h]
theorem tab_replicate (n : Nat) (v : α) : List.replicate n v = tab n (fun _ => v) := by
  refine tab_ext (by simp) ?_
  intro i hi; rw [List.getElem?_replicate, if_pos hi]
end
end Go.Proofs.YtakmkhokbcjapaaDoor.Tabs
end

section
/- Sums over places, and products of rows of numbers. -/
namespace Go.Proofs.YtakmkhokbcjapaaDoor.Sums
set_option linter.unusedVariables false
set_option linter.unusedSimpArgs false
def sumN : Nat → (Nat → Int) → Int
  | 0, _ => 0
  | n + 1, f => sumN n f + f n
theorem sumN_congr {f g : Nat → Int} : ∀ {n : Nat}, (∀ i, i < n → f i = g i) → sumN n f = sumN n g
  | 0, _ => rfl
  | n + 1, h => by unfold sumN; rw [sumN_congr (n := n) (fun i hi => h i (by omega)), h n (by omega)]
theorem sumN_zero {f : Nat → Int} : ∀ {n : Nat}, (∀ i, i < n → f i = 0) → sumN n f = 0
  | 0, _ => rfl
  | n + 1, h => by unfold sumN; rw [sumN_zero (n := n) (fun i hi => h i (by omega)), h n (by omega)]; rfl
theorem sumN_add (f g : Nat → Int) : ∀ n, sumN n (fun i => f i + g i) = sumN n f + sumN n g
  | 0 => rfl
  | n + 1 => by
    show sumN n (fun i => f i + g i) + (f n + g n) = sumN n f + f n + (sumN n g + g n)
    rw [sumN_add f g n]; omega
theorem sumN_comm (f : Nat → Nat → Int) (m : Nat) : ∀ n, sumN n (fun i => sumN m (fun j => f i j)) = sumN m (fun j => sumN n (fun i => f i j))
  | 0 => (sumN_zero (fun _ _ => rfl)).symm
  | n + 1 => by
    show sumN n (fun i => sumN m (fun j => f i j)) + sumN m (fun j => f n j) = sumN m (fun j => sumN n (fun i => f i j) + f n j)
    rw [sumN_comm f m n, sumN_add]
theorem sumN_app (f : Nat → Int) (a : Nat) : ∀ b, sumN (a + b) f = sumN a f + sumN b (fun i => f (a + i))
  | 0 => by show sumN a f = sumN a f + 0; omega
  | b + 1 => by
    show sumN (a + b) f + f (a + b) = sumN a f + (sumN b (fun i => f (a + i)) + f (a + b))
    rw [sumN_app f a b]; omega
theorem sumN_split (f : Nat → Int) (m : Nat) : ∀ k, sumN (k * m) f = sumN k (fun i => sumN m (fun u => f (i * m + u)))
  | 0 => by rw [Nat.zero_mul]; rfl
  | k + 1 => by
    rw [Nat.succ_mul, sumN_app, sumN_split f m k]
    rfl
theorem sumN_ext {f : Nat → Int} {n N : Nat} (h : n ≤ N) (hz : ∀ i, n ≤ i → i < N → f i = 0) : sumN N f = sumN n f := by
  obtain ⟨d, rfl⟩ : ∃ d, N = n + d := ⟨N - n, by omega⟩
  rw [sumN_app, sumN_zero (n := d) (fun i hi => hz _ (by omega) (by omega))]; omega
theorem sumN_one {f : Nat → Int} : ∀ {n j : Nat}, j < n → (∀ i, i < n → i ≠ j → f i = 0) → sumN n f = f j
  | 0, j, h, _ => absurd h (Nat.not_lt_zero _)
  | n + 1, j, h, hz => by
    unfold sumN
    by_cases e : j = n
    · rw [sumN_zero (n := n) (fun i hi => hz i (by omega) (by omega)), e]; omega
    · rw [sumN_one (n := n) (by omega) (fun i hi hne => hz i (by omega) hne), hz n (by omega) (by omega)]; omega
theorem sumN_abs {f : Nat → Int} {B : Nat} : ∀ {n : Nat}, (∀ i, i < n → (f i).natAbs ≤ B) → (sumN n f).natAbs ≤ n * B
  | 0, _ => by simp [sumN]
  | n + 1, h => by
    have h1 := sumN_abs (n := n) (fun i hi => h i (by omega))
    have h2 := h n (by omega)
    unfold sumN
    rw [Nat.succ_mul]
    omega
/-- What is in a row at a place; nought behind it. -/
def ext (n : Nat) (g : Nat → Int) (i : Nat) : Int := if i < n then g i else 0
theorem ext_in {n : Nat} {g : Nat → Int} {i : Nat} (h : i < n) : ext n g i = g i := if_pos h
theorem ext_out {n : Nat} {g : Nat → Int} {i : Nat} (h : n ≤ i) : ext n g i = 0 := if_neg (by omega)
theorem ext_abs {n : Nat} {g : Nat → Int} {B : Nat} (h : ∀ i, (g i).natAbs ≤ B) (i : Nat) : (ext n g i).natAbs ≤ B := by
  unfold ext; split
  · exact h i
  · simp
/-- The products whose places sum up to t: of the first 'nx' rows, and of the first 'j' numbers of the row 'nx'. -/
def conv (nx ny : Nat) (x y : Nat → Int) (t : Nat) : Int := sumN nx (fun a => sumN ny (fun b => if a + b = t then x a * y b else 0))
def psum (ny : Nat) (x y : Nat → Int) (i j t : Nat) : Int := conv i ny x y t + sumN j (fun b => if i + b = t then x i * y b else 0)
theorem psum_zero (ny : Nat) (x y : Nat → Int) (i t : Nat) : psum ny x y i 0 t = conv i ny x y t := by unfold psum sumN; omega
theorem psum_succ (ny : Nat) (x y : Nat → Int) (i j t : Nat) : psum ny x y i (j + 1) t = if t = i + j then psum ny x y i j t + x i * y j else psum ny x y i j t := by
  show conv i ny x y t + (sumN j _ + (if i + j = t then x i * y j else 0)) = _
  unfold psum
  by_cases h : t = i + j
  · rw [if_pos h, if_pos h.symm]; omega
  · rw [if_neg h, if_neg (fun h' => h h'.symm)]; omega
theorem term_abs {x y : Nat → Int} {Bx By a b t : Nat} (hx : ∀ i, (x i).natAbs ≤ Bx) (hy : ∀ i, (y i).natAbs ≤ By) : (if a + b = t then x a * y b else 0).natAbs ≤ Bx * By := by
  split
  · rw [Int.natAbs_mul]; exact Nat.mul_le_mul (hx a) (hy b)
  · simp
theorem conv_abs {x y : Nat → Int} {Bx By : Nat} (hx : ∀ i, (x i).natAbs ≤ Bx) (hy : ∀ i, (y i).natAbs ≤ By) (nx ny t : Nat) : (conv nx ny x y t).natAbs ≤ nx * (ny * (Bx * By)) :=
  sumN_abs (fun a _ => sumN_abs (fun b _ => term_abs hx hy))
theorem psum_abs {x y : Nat → Int} {Bx By : Nat} (hx : ∀ i, (x i).natAbs ≤ Bx) (hy : ∀ i, (y i).natAbs ≤ By) (ny i j t : Nat) : (psum ny x y i j t).natAbs ≤ i * (ny * (Bx * By)) + j * (Bx * By) := by
  have h1 := conv_abs hx hy i ny t
  have h2 : (sumN j (fun b => if i + b = t then x i * y b else 0)).natAbs ≤ j * (Bx * By) := sumN_abs (fun b _ => term_abs hx hy)
  unfold psum
  omega
theorem conv_out {nx ny : Nat} {x y : Nat → Int} {t : Nat} (h : nx + ny ≤ t + 1) : conv nx ny x y t = 0 :=
  sumN_zero (fun a ha => sumN_zero (fun b hb => if_neg (by omega)))
/-- Rows of noughts behind change nothing. -/
theorem conv_ext {nx ny Nx Ny : Nat} (hx : nx ≤ Nx) (hy : ny ≤ Ny) (x y : Nat → Int) (t : Nat) : conv Nx Ny (ext nx x) (ext ny y) t = conv nx ny x y t := by
  unfold conv
  rw [sumN_ext hx (fun a h1 h2 => sumN_zero (fun b _ => by rw [ext_out h1]; simp))]
  refine sumN_congr (fun a ha => ?_)
  rw [sumN_ext hy (fun b h1 h2 => by rw [ext_out (g := y) h1]; simp)]
  exact sumN_congr (fun b hb => by rw [ext_in ha, ext_in hb])
/-- Products of parts, by their places: the product. -/
theorem conv_parts (k1 k2 m : Nat) (x y : Nat → Int) (t : Nat) :
    sumN k1 (fun i => sumN k2 (fun j => if (i + j) * m ≤ t then conv m m (fun u => x (i * m + u)) (fun v => y (j * m + v)) (t - (i + j) * m) else 0)) = conv (k1 * m) (k2 * m) x y t := by
  unfold conv
  rw [sumN_split]
  refine sumN_congr (fun i _ => ?_)
  -- per i: swap the sums over j and u
  have h1 : sumN m (fun u => sumN (k2 * m) (fun b => if i * m + u + b = t then x (i * m + u) * y b else 0)) = sumN m (fun u => sumN k2 (fun j => sumN m (fun v => if i * m + u + (j * m + v) = t then x (i * m + u) * y (j * m + v) else 0))) :=
    sumN_congr (fun u _ => sumN_split _ m k2)
  rw [h1, sumN_comm]
  refine sumN_congr (fun j _ => ?_)
  by_cases h : (i + j) * m ≤ t
  · rw [if_pos h]
    refine sumN_congr (fun u _ => sumN_congr (fun v _ => ?_))
    have e : (i + j) * m = i * m + j * m := Nat.add_mul i j m
    by_cases g : u + v = t - (i + j) * m
    · rw [if_pos g, if_pos (by omega)]
    · rw [if_neg g, if_neg (by omega)]
  · rw [if_neg h]
    symm
    have e : (i + j) * m = i * m + j * m := Nat.add_mul i j m
    exact sumN_zero (fun u _ => sumN_zero (fun v _ => if_neg (by omega)))
end Go.Proofs.YtakmkhokbcjapaaDoor.Sums
end

section
/- Rows of the program's numbers: sums, products, parts, what is laid together. -/
namespace Go.Proofs.YtakmkhokbcjapaaDoor.PolyA
open Go Go.RowKit Go.Proofs.YtakmkhokbcjapaaDoorW.PrintWords Go.Proofs.YtakmkhokbcjapaaDoorW.PrintLast Go.Proofs.YtakmkhokbcjapaaDoor.XA Go.Proofs.YtakmkhokbcjapaaDoor.Nums Go.Proofs.YtakmkhokbcjapaaDoor.Evs Go.Proofs.YtakmkhokbcjapaaDoor.IntA Go.Proofs.YtakmkhokbcjapaaDoor.IntB Go.Proofs.YtakmkhokbcjapaaDoor.IntC Go.Proofs.YtakmkhokbcjapaaDoor.Tabs Go.Proofs.YtakmkhokbcjapaaDoor.Sums
set_option linter.unusedVariables false
set_option linter.unusedSimpArgs false
def R (z : Int) : S39 := ⟨neg z, mag 4294967296 z⟩
/-- Small enough for a machine. -/
def fit (B : Nat) : Prop := B < 2 ^ 1000
theorem fit_le {a b : Nat} (h : a ≤ b) (hb : fit b) : fit a := Nat.lt_of_le_of_lt h hb
def sm (z : Int) : Prop := z.natAbs < 2 ^ 1000
theorem sm_of {z : Int} {B : Nat} (h : z.natAbs ≤ B) (hB : fit B) : sm z := Nat.lt_of_le_of_lt h hB
theorem sm0 : sm 0 := Nat.two_pow_pos 1000
theorem sm_len {z : Int} (h : sm z) : (mag 4294967296 z).length ≤ 1099511627776 := Nat.le_trans (mag_len_of (by decide) h) (by decide)
theorem add_ev {x y : Int} (hx : sm x) (hy : sm y) : Ev (fun k => integer_Int_Add.f k (R x).f0 (R x).f1 (R y).f0 (R y).f1) ((R (x + y)).f0, (R (x + y)).f1) := ev_add x y (sm_len hx) (sm_len hy)
theorem mul_ev {x y : Int} (hx : sm x) (hy : sm y) : Ev (fun k => integer_Int_Mul.f k (R x).f0 (R x).f1 (R y).f0 (R y).f1) ((R (x * y)).f0, (R (x * y)).f1) := ev_mul x y (sm_len hx) (sm_len hy)
def RT (n : Nat) (g : Nat → Int) : List S39 := tab n (fun i => R (g i))
theorem RT_len (n : Nat) (g : Nat → Int) : (RT n g).length = n := tab_length _ _
theorem rd_RT {n : Nat} (g : Nat → Int) {i : Nat} (h : i < n) : rd_T39 (RT n g) (i : Int) = R (g i) := by
  unfold rd_T39 RT
  rw [Int.toNat_natCast, tab_getD _ _ h]
theorem RT_set (n i : Nat) (v : Int) (g : Nat → Int) : (RT n g).set i (R v) = RT n (fun j => if j = i then v else g j) := by
  unfold RT
  rw [tab_set]
  refine tab_congr (fun j _ => ?_)
  show (if j = i then R v else R (g j)) = R (if j = i then v else g j)
  split <;> rfl
theorem RT_congr {n : Nat} {g h : Nat → Int} (e : ∀ i, i < n → g i = h i) : RT n g = RT n h := tab_congr (fun i hi => by rw [e i hi])
theorem RT_replicate (n : Nat) : List.replicate n z39 = RT n (fun _ => 0) := tab_replicate n z39
theorem RT_succ (n : Nat) (g : Nat → Int) : RT n g ++ [R (g n)] = RT (n + 1) g := (tab_succ n _).symm
theorem RT_getElem? {n i : Nat} (g : Nat → Int) (h : i < n) : (RT n g)[i]? = some (R (g i)) := tab_getElem? _ h
theorem RT_ext {n : Nat} {l : List S39} {g : Nat → Int} (hl : l.length = n) (h : ∀ i, i < n → l[i]? = some (R (g i))) : l = RT n g := tab_ext hl h
theorem RT_take {n m : Nat} (g : Nat → Int) (h : m ≤ n) : (RT n g).take m = RT m g := by
  refine RT_ext (by rw [List.length_take, RT_len]; omega) (fun i hi => ?_)
  rw [List.getElem?_take_of_lt hi, RT_getElem? g (by omega)]
theorem RT_drop {n m : Nat} (g : Nat → Int) : (RT n g).drop m = RT (n - m) (fun i => g (m + i)) := by
  refine RT_ext (by rw [List.length_drop, RT_len]) (fun i hi => ?_)
  rw [List.getElem?_drop, RT_getElem? g (by omega)]
theorem next {j n : Nat} (h : j < n) (hn : n ≤ 4611686018427387904) : wrap64 ((j : Int) + 1) = ((j + 1 : Nat) : Int) := by rw [wrap64_in] <;> omega
/-! ### the product -/
section
variable (nx ny : Nat) (x y : Nat → Int)
theorem mul_inner (hn : nx + ny ≤ 100000) (i : Nat) (hi : i < nx) (hsx : ∀ a, sm (x a)) (hsy : ∀ a, sm (y a)) (hsp : ∀ a b, sm (x a * y b)) (hsc : ∀ i j t, i ≤ nx → j ≤ ny → sm (psum ny x y i j t)) (Q : List S39)
    (cont : ∀ cnt, ∃ r, Ev (fun k => poly_Mul.l0 k (RT ny y) (RT (nx + ny - 1) (conv (i + 1) ny x y)) cnt (RT nx x) (nx : Int) ((i + 1 : Nat) : Int)) (Q, r)) :
    ∀ d j cnt, j + d = ny → ∃ r, Ev (fun k => poly_Mul.l1 k (RT ny y) (RT (nx + ny - 1) (psum ny x y i j)) cnt (i : Int) (RT nx x) (nx : Int) (i : Int) (RT ny y) (ny : Int) (j : Int) (R (x i)).f0 (R (x i)).f1) (Q, r) := by
  intro d
  induction d with
  | zero =>
    intro j cnt hj
    obtain rfl : j = ny := by omega
    obtain ⟨r, hr⟩ := cont cnt
    refine ⟨r, Ev.step (f := fun k => poly_Mul.l0 k (RT j y) (RT (nx + j - 1) (conv (i + 1) j x y)) cnt (RT nx x) (nx : Int) ((i + 1 : Nat) : Int)) (fun k => ?_) hr⟩
    simp only [poly_Mul.l1]
    rw [if_neg (by omega), next hi (by omega)]
    rfl
  | succ d ih =>
    intro j cnt hj
    have hlt : j < ny := by omega
    obtain ⟨r, hr⟩ := ih (j + 1) (wrap64 (cnt + 1)) (by omega)
    refine ⟨r, Ev.step (f := fun k => (integer_Int_Mul.f k (R (x i)).f0 (R (x i)).f1 (R (y j)).f0 (R (y j)).f1).bind fun b1 => (integer_Int_Add.f k (R (psum ny x y i j (i + j))).f0 (R (psum ny x y i j (i + j))).f1 b1.1 b1.2).bind fun b2 => poly_Mul.l1 k (RT ny y) ((RT (nx + ny - 1) (psum ny x y i j)).set (i + j) ⟨b2.1, b2.2⟩) (wrap64 (cnt + 1)) (i : Int) (RT nx x) (nx : Int) (i : Int) (RT ny y) (ny : Int) ((j + 1 : Nat) : Int) (R (x i)).f0 (R (x i)).f1) (fun k => ?_) ?_⟩
    · simp only [poly_Mul.l1]
      rw [if_pos (by omega), if_pos (by omega), if_pos (by rw [RT_len]; omega), show wrap64 ((i : Int) + j) = ((i + j : Nat) : Int) by rw [wrap64_in] <;> omega, if_pos (by omega), if_pos (by rw [RT_len]; omega), rd_RT y hlt, rd_RT (psum ny x y i j) (by omega), next hlt (by omega), Int.toNat_natCast]
    · refine Ev.bind (mul_ev (hsx i) (hsy j)) (Ev.bind (add_ev (hsc i j _ (by omega) (by omega)) (hsp i j)) ?_)
      show Ev (fun k => poly_Mul.l1 k (RT ny y) ((RT (nx + ny - 1) (psum ny x y i j)).set (i + j) (R (psum ny x y i j (i + j) + x i * y j))) _ _ _ _ _ _ _ _ _ _) _
      rw [RT_set]
      have e : RT (nx + ny - 1) (fun t => if t = i + j then psum ny x y i j (i + j) + x i * y j else psum ny x y i j t) = RT (nx + ny - 1) (psum ny x y i (j + 1)) := RT_congr (fun t _ => by
        rw [psum_succ]
        by_cases h : t = i + j
        · rw [if_pos h, if_pos h, h]
        · rw [if_neg h, if_neg h])
      rw [e]
      exact hr
theorem mul_outer (hn : nx + ny ≤ 100000) (hsx : ∀ a, sm (x a)) (hsy : ∀ a, sm (y a)) (hsp : ∀ a b, sm (x a * y b)) (hsc : ∀ i j t, i ≤ nx → j ≤ ny → sm (psum ny x y i j t)) :
    ∀ d i cnt, i + d = nx → ∃ r, Ev (fun k => poly_Mul.l0 k (RT ny y) (RT (nx + ny - 1) (conv i ny x y)) cnt (RT nx x) (nx : Int) (i : Int)) (RT (nx + ny - 1) (conv nx ny x y), r) := by
  intro d
  induction d with
  | zero =>
    intro i cnt hi
    obtain rfl : i = nx := by omega
    refine ⟨cnt, Ev.step (f := fun _ => some (RT (i + ny - 1) (conv i ny x y), cnt)) (fun k => ?_) (Ev.now _)⟩
    simp only [poly_Mul.l0]
    rw [if_neg (by omega)]
  | succ d ih =>
    intro i cnt hi
    have hlt : i < nx := by omega
    obtain ⟨r, hr⟩ := mul_inner nx ny x y hn i hlt hsx hsy hsp hsc _ (fun c => ih (i + 1) c (by omega)) ny 0 cnt (by omega)
    refine ⟨r, Ev.step (f := fun k => poly_Mul.l1 k (RT ny y) (RT (nx + ny - 1) (conv i ny x y)) cnt (i : Int) (RT nx x) (nx : Int) (i : Int) (RT ny y) (ny : Int) ((0 : Nat) : Int) (R (x i)).f0 (R (x i)).f1) (fun k => ?_) ?_⟩
    · simp only [poly_Mul.l0]
      rw [if_pos (by omega), if_pos (by omega), if_pos (by rw [RT_len]; omega), rd_RT x hlt, RT_len]
      rfl
    · have e : RT (nx + ny - 1) (psum ny x y i 0) = RT (nx + ny - 1) (conv i ny x y) := RT_congr (fun t _ => psum_zero ny x y i t)
      rw [e] at hr
      exact hr
/-- The product of two rows. -/
theorem mul_rows (h1 : 1 ≤ nx) (h2 : 1 ≤ ny) (hn : nx + ny ≤ 100000) (hsx : ∀ a, sm (x a)) (hsy : ∀ a, sm (y a)) (hsp : ∀ a b, sm (x a * y b)) (hsc : ∀ i j t, i ≤ nx → j ≤ ny → sm (psum ny x y i j t)) :
    ∃ r, Ev (fun k => poly_Mul.f k (RT nx x) (RT ny y)) (RT (nx + ny - 1) (conv nx ny x y), r) := by
  obtain ⟨r, hr⟩ := mul_outer nx ny x y hn hsx hsy hsp hsc nx 0 0 (by omega)
  refine ⟨r, ?_⟩
  unfold poly_Mul.f
  rw [RT_len, RT_len, show ((ny : Int) == 0) = false from beq_eq_false_iff_ne.2 (by omega)]
  refine ev_neg (by omega) (Ev.step (f := fun k => poly_Mul.l0 k (RT ny y) (RT (nx + ny - 1) (conv 0 ny x y)) 0 (RT nx x) (nx : Int) ((0 : Nat) : Int)) (fun k => ?_) hr)
  simp only [poly_Mul.j0]
  rw [if_neg (by decide), RT_len, RT_len, show wrap64 ((nx : Int) + ny) = ((nx + ny : Nat) : Int) by rw [wrap64_in] <;> omega, show wrap64 (((nx + ny : Nat) : Int) - 1) = ((nx + ny - 1 : Nat) : Int) by rw [wrap64_in] <;> omega, if_pos (by omega), Int.toNat_natCast, if_pos (by omega), RT_replicate]
  rfl
theorem mul_none (h : nx = 0 ∨ ny = 0) : Ev (fun k => poly_Mul.f k (RT nx x) (RT ny y)) ([], 0) := by
  have go : Ev (fun k => poly_Mul.j0 k (RT nx x) (RT ny y) true) ([], 0) := Ev.step (f := fun _ => some ([], 0)) (fun k => by simp only [poly_Mul.j0]; rfl) (Ev.now _)
  unfold poly_Mul.f
  by_cases h1 : nx = 0
  · exact ev_pos (by rw [RT_len]; omega) go
  · refine ev_neg (by rw [RT_len]; omega) ?_
    rw [RT_len, show ((ny : Int) == 0) = true from beq_iff_eq.2 (by omega)]
    exact go
end
/-! ### the sum -/
theorem placed_loop (n m : Nat) (a b : Nat → Int) (hn : n ≤ 100000) (hm : m ≤ 100000) (ha : ∀ i, sm (a i)) (hb : ∀ i, sm (b i)) : ∀ d i, i + d = max n m → Ev (fun k => poly_placed.l0 k (RT n a) (RT m b) (RT i (fun j => ext n a j + ext m b j)) ((max n m : Nat) : Int) (i : Int)) (RT (max n m) (fun j => ext n a j + ext m b j)) := by
  have z : sm 0 := sm0
  intro d
  induction d with
  | zero =>
    intro i hi
    obtain rfl : i = max n m := by omega
    refine Ev.step (f := fun _ => some _) (fun k => ?_) (Ev.now _)
    simp only [poly_placed.l0]
    rw [if_neg (by omega)]
  | succ d ih =>
    intro i hi
    have hlt : i < max n m := by omega
    have hx : ∀ i, sm (ext n a i) := fun i => by unfold ext; split; exact ha i; exact z
    have hy : ∀ i, sm (ext m b i) := fun i => by unfold ext; split; exact hb i; exact z
    refine Ev.step (f := fun k => (integer_Int_Add.f k (R (ext n a i)).f0 (R (ext n a i)).f1 (R (ext m b i)).f0 (R (ext m b i)).f1).bind fun b1 => poly_placed.l0 k (RT n a) (RT m b) (RT i (fun j => ext n a j + ext m b j) ++ [⟨b1.1, b1.2⟩]) ((max n m : Nat) : Int) ((i + 1 : Nat) : Int)) (fun k => ?_) ?_
    · simp only [poly_placed.l0]
      rw [if_pos (by omega), next hlt (by omega), RT_len, RT_len, RT_len]
      by_cases h1 : i < n
      · rw [if_pos (by omega), if_pos (by omega), ext_in h1, rd_RT a h1]
        by_cases h2 : i < m
        · rw [if_pos (by omega), ext_in h2, rd_RT b h2]
          simp only [show i < 4398046511104 by omega, if_true]
        · rw [if_neg (by omega), ext_out (g := b) (by omega)]
          simp only [show i < 4398046511104 by omega, if_true]
          rfl
      · rw [if_neg (by omega), ext_out (g := a) (by omega)]
        by_cases h2 : i < m
        · rw [if_pos (by omega), if_pos (by omega), ext_in h2, rd_RT b h2]
          simp only [show i < 4398046511104 by omega, if_true]
          rfl
        · exact absurd hlt (by omega)
    · refine Ev.bind (add_ev (hx i) (hy i)) ?_
      show Ev (fun k => poly_placed.l0 k (RT n a) (RT m b) (RT i (fun j => ext n a j + ext m b j) ++ [R (ext n a i + ext m b i)]) _ _) _
      rw [RT_succ i (fun j => ext n a j + ext m b j)]
      exact ih (i + 1) (by omega)
theorem add_rows (n m : Nat) (a b : Nat → Int) (hn : n ≤ 100000) (hm : m ≤ 100000) (ha : ∀ i, sm (a i)) (hb : ∀ i, sm (b i)) : Ev (fun k => poly_Add.f k (RT n a) (RT m b)) (RT (max n m) (fun j => ext n a j + ext m b j)) := by
  unfold poly_Add.f poly_placed.f
  refine Ev.bind ?_ (Ev.now _)
  rw [RT_len, RT_len, show mx (n : Int) (m : Int) = ((max n m : Nat) : Int) by unfold mx; split <;> omega]
  exact placed_loop n m a b hn hm ha hb (max n m) 0 (by omega)
/-! ### two rows that are alike -/
theorem alike_loop (n : Nat) (a b : Nat → Int) (hn : n ≤ 100000) (ha : ∀ i, i < n → sm (a i)) (he : ∀ i, i < n → a i = b i) : ∀ d i, i + d = n → Ev (fun k => integer_Int.l0 k (RT n b) (RT n a) (n : Int) (i : Int)) true := by
  intro d
  induction d with
  | zero =>
    intro i hi
    refine Ev.step (f := fun _ => some true) (fun k => ?_) (Ev.now _)
    simp only [integer_Int.l0]
    rw [if_neg (by omega)]
  | succ d ih =>
    intro i hi
    have hlt : i < n := by omega
    refine Ev.step (f := fun k => (swagelaw21_alike_1.f k (R (a i)).f0 (R (a i)).f1 (R (b i)).f0 (R (b i)).f1).bind fun t => if t = true then integer_Int.l0 k (RT n b) (RT n a) (n : Int) ((i + 1 : Nat) : Int) else some false) (fun k => ?_) ?_
    · simp only [integer_Int.l0]
      rw [if_pos (by omega), if_pos (by omega), if_pos (by rw [RT_len]; omega), if_pos (by rw [RT_len]; omega), rd_RT a hlt, rd_RT b hlt, next hlt (by omega)]
    · have e : Ev (fun k => swagelaw21_alike_1.f k (R (a i)).f0 (R (a i)).f1 (R (b i)).f0 (R (b i)).f1) true := by
        rw [← he i hlt]
        unfold swagelaw21_alike_1.f
        have h := ev_cmp (a i) (a i) (sm_len (ha i hlt)) (sm_len (ha i hlt))
        rw [cmp3_self] at h
        exact Ev.bind h (Ev.now _)
      exact Ev.bind e (ev_pos rfl (ih (i + 1) (by omega)))
theorem alike_rows (n : Nat) (a b : Nat → Int) (hn : n ≤ 100000) (ha : ∀ i, i < n → sm (a i)) (he : ∀ i, i < n → a i = b i) : Ev (fun k => swagelaw21_alike.f k (RT n a) (RT n b)) true := by
  unfold swagelaw21_alike.f integer_Int.f
  refine Ev.bind (ev_pos (by rw [RT_len, RT_len]) ?_) (Ev.now _)
  rw [RT_len]
  exact alike_loop n a b hn ha he n 0 (by omega)
/-! ### the program's numbers of a list -/
theorem list_loop (l : List Int) (hl : l.length ≤ 100000) (hw : ∀ i, i < l.length → -9223372036854775808 ≤ l.getD i 0 ∧ l.getD i 0 ≤ 9223372036854775807) : ∀ d i, i + d = l.length → Ev (fun k => swagelaw21_list.l0 k (RT i (fun j => l.getD j 0)) l (l.length : Int) (i : Int)) (RT l.length (fun j => l.getD j 0)) := by
  intro d
  induction d with
  | zero =>
    intro i hi
    obtain rfl : i = l.length := by omega
    refine Ev.step (f := fun _ => some _) (fun k => ?_) (Ev.now _)
    simp only [swagelaw21_list.l0]
    rw [if_neg (by omega)]
  | succ d ih =>
    intro i hi
    have hlt : i < l.length := by omega
    refine Ev.step (f := fun k => (integer_Of.f k (l.getD i 0)).bind fun b => swagelaw21_list.l0 k (RT i (fun j => l.getD j 0) ++ [⟨b.1, b.2⟩]) l (l.length : Int) ((i + 1 : Nat) : Int)) (fun k => ?_) ?_
    · simp only [swagelaw21_list.l0]
      rw [if_pos (by omega), if_pos (by omega), if_pos (by omega), rd_nat, next hlt (by omega), RT_len]
      simp only [show i < 4398046511104 by omega, if_true]
    · have hb := hw i hlt
      refine Ev.bind (ev_of _ hb.1 hb.2) ?_
      show Ev (fun k => swagelaw21_list.l0 k (RT i (fun j => l.getD j 0) ++ [R (l.getD i 0)]) _ _ _) _
      rw [RT_succ i (fun j => l.getD j 0)]
      exact ih (i + 1) (by omega)
theorem list_ev (l : List Int) (hl : l.length ≤ 100000) (hw : ∀ i, i < l.length → -9223372036854775808 ≤ l.getD i 0 ∧ l.getD i 0 ≤ 9223372036854775807) : Ev (fun k => swagelaw21_list.f k l) (RT l.length (fun j => l.getD j 0)) := by
  unfold swagelaw21_list.f
  exact list_loop l hl hw l.length 0 (by omega)
end Go.Proofs.YtakmkhokbcjapaaDoor.PolyA
end

section
/- Parts of rows, and blocks laid over each other. -/
namespace Go.Proofs.YtakmkhokbcjapaaDoor.PolyB
open Go Go.RowKit Go.Proofs.YtakmkhokbcjapaaDoorW.PrintWords Go.Proofs.YtakmkhokbcjapaaDoorW.PrintLast Go.Proofs.YtakmkhokbcjapaaDoor.XA Go.Proofs.YtakmkhokbcjapaaDoor.Nums Go.Proofs.YtakmkhokbcjapaaDoor.Evs Go.Proofs.YtakmkhokbcjapaaDoor.IntA Go.Proofs.YtakmkhokbcjapaaDoor.IntB Go.Proofs.YtakmkhokbcjapaaDoor.IntC Go.Proofs.YtakmkhokbcjapaaDoor.Tabs Go.Proofs.YtakmkhokbcjapaaDoor.Sums Go.Proofs.YtakmkhokbcjapaaDoor.PolyA
set_option linter.unusedVariables false
set_option linter.unusedSimpArgs false
theorem rd_tab {n : Nat} (g : Nat → List S39) {i : Nat} (h : i < n) : rd_L5 (tab n g) (i : Int) = g i := by
  unfold rd_L5
  rw [Int.toNat_natCast, tab_getD _ _ h]
/-! ### parts -/
def part (n m : Nat) (x : Nat → Int) (s u : Nat) : Int := ext n x (s * m + u)
theorem part_row (n m i : Nat) (x : Nat → Int) : (RT (n - i * m) (fun u => x (i * m + u))).take m ++ (RT m (fun _ => 0)).drop (n - i * m) = RT m (part n m x i) := by
  refine RT_ext ?_ (fun u hu => ?_)
  · rw [List.length_append, List.length_take, List.length_drop, RT_len, RT_len]; omega
  · unfold part
    by_cases h : u < n - i * m
    · rw [List.getElem?_append_left (by rw [List.length_take, RT_len]; omega), List.getElem?_take_of_lt hu, RT_getElem? _ h, ext_in (by omega)]
    · rw [List.getElem?_append_right (by rw [List.length_take, RT_len]; omega), List.getElem?_drop, RT_getElem? _ (by rw [List.length_take, RT_len]; omega), ext_out (by omega)]
theorem part_rest (n m i : Nat) (x : Nat → Int) : (RT (n - i * m) (fun u => x (i * m + u))).drop (min (n - i * m) m) = RT (n - (i + 1) * m) (fun u => x ((i + 1) * m + u)) := by
  rw [RT_drop, Nat.succ_mul]
  rw [show n - i * m - min (n - i * m) m = n - (i * m + m) by omega]
  refine RT_congr (fun u hu => ?_)
  rw [show i * m + (min (n - i * m) m + u) = i * m + m + u by omega]
theorem parts_loop (n k m : Nat) (x : Nat → Int) (hn : n ≤ 4096) (hk : k ≤ 8) (hm : m ≤ 4096) : ∀ d i, i + d = k → Ev (fun f => split_Parts.l0 f (RT (n - i * m) (fun u => x (i * m + u))) (m : Int) (tab i (fun s => RT m (part n m x s))) (k : Int) (i : Int)) (tab k (fun s => RT m (part n m x s)), 0) := by
  intro d
  induction d with
  | zero =>
    intro i hi
    obtain rfl : i = k := by omega
    refine Ev.step (f := fun _ => some _) (fun f => ?_) (Ev.now _)
    simp only [split_Parts.l0]
    rw [if_neg (by omega)]
  | succ d ih =>
    intro i hi
    have hlt : i < k := by omega
    refine Ev.step (f := fun f => split_Parts.l0 f (RT (n - (i + 1) * m) (fun u => x ((i + 1) * m + u))) (m : Int) (tab (i + 1) (fun s => RT m (part n m x s))) (k : Int) ((i + 1 : Nat) : Int)) (fun f => ?_) (ih (i + 1) (by omega))
    simp only [split_Parts.l0]
    rw [if_pos (by omega), if_pos (by omega), Int.toNat_natCast, if_pos (by omega), RT_replicate, Option.bind_some, RT_len, RT_len, if_pos (by omega), if_pos (by omega), if_pos (by omega), tab_length, if_pos (by omega), Int.toNat_natCast, part_rest, part_row, next hlt (by omega), tab_succ i (fun s => RT m (part n m x s))]
theorem parts_ev (n k m : Nat) (x : Nat → Int) (hn : n ≤ 4096) (hk : k ≤ 8) (hm : m ≤ 4096) (k1 : 1 ≤ k) (m1 : 1 ≤ m) (hkm : n ≤ k * m) : Ev (fun f => split_Parts.f f (RT n x) (k : Int) (m : Int)) (tab k (fun s => RT m (part n m x s)), 0) := by
  have hb : k * m ≤ 8 * 4096 := Nat.mul_le_mul hk hm
  unfold split_Parts.f
  refine ev_neg (by omega) (ev_neg (by omega) (ev_neg (by omega) ?_))
  rw [decide_eq_false (by omega)]
  have h := parts_loop n k m x hn hk hm k 0 (by omega)
  refine Ev.step (f := fun f => split_Parts.l0 f (RT n x) (m : Int) [] (k : Int) 0) (fun f => ?_) ?_
  · simp only [split_Parts.j0]
    rw [if_neg (by decide), RT_len, if_neg (by omega), show (k : Int) * (m : Int) = ((k * m : Nat) : Int) from (Int.natCast_mul k m).symm, wrap64_in (by omega) (by omega), if_neg (by omega)]
  · have e : RT (n - 0 * m) (fun u => x (0 * m + u)) = RT n x := by
      rw [Nat.zero_mul, Nat.sub_zero]
      exact RT_congr (fun u _ => by rw [Nat.zero_add])
    rw [e] at h
    exact h
/-! ### the degree -/
def top (c : Nat → Int) : Nat → Int
  | 0 => -1
  | d + 1 => if c d = 0 then top c d else d
theorem top_small {c : Nat → Int} {n : Nat} : ∀ {d : Nat}, (∀ t, n ≤ t → t < d → c t = 0) → top c d < n
  | 0, _ => by unfold top; omega
  | d + 1, h => by
    unfold top
    by_cases h0 : c d = 0
    · rw [if_pos h0]; exact top_small (fun t h1 h2 => h t h1 (by omega))
    · rw [if_neg h0]
      rcases Nat.lt_or_ge d n with h1 | h1
      · omega
      · exact absurd (h d h1 (by omega)) h0
theorem deg_loop (A : Nat) (c : Nat → Int) (hA : A ≤ 100000) : ∀ d, d ≤ A → Ev (fun k => poly_Degree.l0 k (RT A c) ((d : Int) - 1)) (top c d)
  | 0, _ => by
    refine Ev.step (f := fun _ => some (-1)) (fun k => ?_) (Ev.now _)
    simp only [poly_Degree.l0]
    rw [if_neg (by omega)]
    rfl
  | d + 1, h => by
    refine Ev.step (f := fun k => if c d = 0 then poly_Degree.l0 k (RT A c) ((d : Int) - 1) else some (d : Int)) (fun k => ?_) ?_
    · simp only [poly_Degree.l0]
      rw [show ((d + 1 : Nat) : Int) - 1 = (d : Int) by omega, if_pos (by omega), if_pos (by omega), if_pos (by rw [RT_len]; omega), rd_RT c (show d < A by omega)]
      rw [show integer_Int_Sign.f (R (c d)).f0 (R (c d)).f1 = some (sgn (c d)) from sign_at (c d), Option.bind_some, wrap64_in (by omega) (by omega)]
      by_cases h0 : c d = 0
      · rw [if_pos h0, h0, if_pos (by decide)]
      · rw [if_neg h0, if_neg (by unfold sgn; rw [if_neg h0]; split <;> decide)]
    · unfold top
      by_cases h0 : c d = 0
      · rw [if_pos h0]; exact ev_pos h0 (deg_loop A c hA d (by omega))
      · rw [if_neg h0]; exact ev_neg h0 (Ev.now _)
theorem deg_ev (A : Nat) (c : Nat → Int) (hA : A ≤ 100000) : Ev (fun k => poly_Degree.f k (RT A c)) (top c A) := by
  unfold poly_Degree.f
  rw [RT_len, wrap64_in (by omega) (by omega)]
  exact deg_loop A c hA A (Nat.le_refl _)
/-! ### blocks laid over each other -/
section
variable (m n : Nat) (L : Nat → Nat) (g : Nat → Nat → Int)
def blocks (nb : Nat) : List (List S39) := tab nb (fun i => RT (L i) (g i))
def reach : Nat → Nat
  | 0 => n
  | i + 1 => max (reach i) (i * m + L i)
def lay (i t : Nat) : Int := sumN i (fun s => if s * m ≤ t then ext (L s) (g s) (t - s * m) else 0)
def layTo (i j t : Nat) : Int := lay m L g i t + if i * m ≤ t ∧ t < i * m + j then g i (t - i * m) else 0
theorem reach_mono : ∀ d i, reach m n L i ≤ reach m n L (i + d)
  | 0, i => Nat.le_refl _
  | d + 1, i => by
    have := reach_mono d i
    show reach m n L i ≤ max (reach m n L (i + d)) _
    omega
theorem reach_in {i nb : Nat} (h : i < nb) : i * m + L i ≤ reach m n L nb := by
  have h1 := reach_mono m n L (nb - (i + 1)) (i + 1)
  rw [show i + 1 + (nb - (i + 1)) = nb by omega] at h1
  have : i * m + L i ≤ reach m n L (i + 1) := by
    show _ ≤ max (reach m n L i) (i * m + L i)
    omega
  omega
theorem reach_n (nb : Nat) : n ≤ reach m n L nb := by
  have h := reach_mono m n L nb 0
  rw [Nat.zero_add] at h
  exact h
theorem reach_le (hm : m ≤ 4096) (hn : n ≤ 8192) (hL : ∀ i, L i ≤ 8192) : ∀ nb, nb ≤ 15 → reach m n L nb ≤ 8192 + 15 * 4096
  | 0, _ => by show n ≤ _; omega
  | i + 1, h => by
    have h1 := reach_le hm hn hL i (by omega)
    have h2 : i * m ≤ 14 * 4096 := Nat.mul_le_mul (by omega) hm
    have h3 := hL i
    show max (reach m n L i) (i * m + L i) ≤ _
    omega
theorem layTo_zero (i t : Nat) : layTo m L g i 0 t = lay m L g i t := by unfold layTo; rw [if_neg (by omega)]; omega
theorem layTo_full (i t : Nat) : layTo m L g i (L i) t = lay m L g (i + 1) t := by
  unfold layTo
  show _ = lay m L g i t + (if i * m ≤ t then ext (L i) (g i) (t - i * m) else 0)
  by_cases h : i * m ≤ t
  · by_cases h2 : t < i * m + L i
    · rw [if_pos ⟨h, h2⟩, if_pos h, ext_in (by omega)]
    · rw [if_neg (fun h' => h2 h'.2), if_pos h, ext_out (by omega)]
  · rw [if_neg (fun h' => h h'.1), if_neg h]
theorem layTo_succ (i j t : Nat) : layTo m L g i (j + 1) t = if t = i * m + j then layTo m L g i j t + g i j else layTo m L g i j t := by
  unfold layTo
  by_cases h : t = i * m + j
  · rw [if_pos h, if_pos (by omega), if_neg (by omega), show t - i * m = j by omega]; omega
  · rw [if_neg h]
    by_cases h2 : i * m ≤ t ∧ t < i * m + j
    · rw [if_pos h2, if_pos (by omega)]
    · rw [if_neg h2, if_neg (by omega)]
theorem lay_abs {B : Nat} (hg : ∀ s u, (g s u).natAbs ≤ B) (i t : Nat) : (lay m L g i t).natAbs ≤ i * B := by
  refine sumN_abs (fun s _ => ?_)
  split
  · exact ext_abs (hg s) _
  · simp
theorem layTo_abs {B : Nat} (hg : ∀ s u, (g s u).natAbs ≤ B) (i j t : Nat) : (layTo m L g i j t).natAbs ≤ i * B + B := by
  have h1 := lay_abs m L g hg i t
  have h2 := hg i (t - i * m)
  unfold layTo
  split <;> omega
variable {m n L g}
theorem wrapN {x : Nat} (h : x ≤ 1000000) : wrap64 (x : Int) = (x : Int) := by unfold wrap64; omega
theorem join_inner {nb B : Nat} (hm : m ≤ 4096) (hn : n ≤ 8192) (hL : ∀ i, L i ≤ 8192) (hb : nb ≤ 15) (hg : ∀ s u, (g s u).natAbs ≤ B) (hB : fit (20 * B)) {i : Nat} (hi : i < nb) {Q : List S39 × Int}
    (cont : Ev (fun k => split_Join.l1 k (m : Int) (n : Int) (RT (reach m n L nb) (lay m L g (i + 1))) (blocks L g nb) (nb : Int) ((i + 1 : Nat) : Int)) Q) :
    ∀ d j, j + d = L i → Ev (fun k => split_Join.l2 k (m : Int) (n : Int) (RT (reach m n L nb) (layTo m L g i j)) (i : Int) (blocks L g nb) (nb : Int) (i : Int) (RT (L i) (g i)) (L i : Int) (j : Int)) Q := by
  have hr := reach_le m n L hm hn hL nb hb
  have hin := reach_in m n L hi
  intro d
  induction d with
  | zero =>
    intro j hj
    obtain rfl : j = L i := by omega
    refine Ev.step (f := fun k => split_Join.l1 k (m : Int) (n : Int) (RT (reach m n L nb) (lay m L g (i + 1))) (blocks L g nb) (nb : Int) ((i + 1 : Nat) : Int)) (fun k => ?_) cont
    simp only [split_Join.l2]
    rw [if_neg (by omega), next hi (by omega), RT_congr (fun t _ => layTo_full m L g i t)]
  | succ d ih =>
    intro j hj
    have hlt : j < L i := by omega
    have him : i * m ≤ 14 * 4096 := Nat.mul_le_mul (by omega) hm
    have hLi := hL i
    have c4 : i * m + j < reach m n L nb := by omega
    have b1 : i * m ≤ 1000000 := by omega
    have b2 : i * m + j ≤ 1000000 := by omega
    have c5 : ((i * m + j : Nat) : Int) < ((RT (reach m n L nb) (layTo m L g i j)).length : Int) := by rw [RT_len]; exact Int.ofNat_lt.2 c4
    have s1 : sm (layTo m L g i j (i * m + j)) := sm_of (layTo_abs m L g hg i j _) (fit_le (by have : i * B ≤ 14 * B := Nat.mul_le_mul (by omega) (Nat.le_refl _); omega) hB)
    have s2 : sm (g i j) := sm_of (hg i j) (fit_le (by omega) hB)
    refine Ev.step (f := fun k => (integer_Int_Add.f k (R (layTo m L g i j (i * m + j))).f0 (R (layTo m L g i j (i * m + j))).f1 (R (g i j)).f0 (R (g i j)).f1).bind fun b => split_Join.l2 k (m : Int) (n : Int) ((RT (reach m n L nb) (layTo m L g i j)).set (i * m + j) ⟨b.1, b.2⟩) (i : Int) (blocks L g nb) (nb : Int) (i : Int) (RT (L i) (g i)) (L i : Int) ((j + 1 : Nat) : Int)) (fun k => ?_) ?_
    · simp only [split_Join.l2]
      have e1 : wrap64 ((i : Int) * (m : Int)) = ((i * m : Nat) : Int) := by rw [← Int.natCast_mul]; exact wrapN b1
      have e2 : wrap64 (((i * m : Nat) : Int) + (j : Int)) = ((i * m + j : Nat) : Int) := by rw [← Int.natCast_add]; exact wrapN b2
      rw [e1, e2]
      rw [if_pos (show (j : Int) < (L i : Int) from Int.ofNat_lt.2 hlt)]
      rw [if_pos (Int.natCast_nonneg j)]
      rw [if_pos (show (j : Int) < ((RT (L i) (g i)).length : Int) by rw [RT_len]; exact Int.ofNat_lt.2 hlt)]
      rw [if_pos (Int.natCast_nonneg (i * m + j))]
      rw [if_pos c5]
      have r1 := rd_RT (g i) hlt
      have r2 := rd_RT (layTo m L g i j) (show i * m + j < reach m n L nb by omega)
      have r3 := next hlt (Nat.le_trans hLi (by decide))
      rw [r1]
      rw [r2]
      rw [r3]
      rw [Int.toNat_natCast]
    · refine Ev.bind (add_ev s1 s2) ?_
      show Ev (fun k => split_Join.l2 k (m : Int) (n : Int) ((RT (reach m n L nb) (layTo m L g i j)).set (i * m + j) (R (layTo m L g i j (i * m + j) + g i j))) _ _ _ _ _ _ _) _
      rw [RT_set]
      have e : RT (reach m n L nb) (fun t => if t = i * m + j then layTo m L g i j (i * m + j) + g i j else layTo m L g i j t) = RT (reach m n L nb) (layTo m L g i (j + 1)) := RT_congr (fun t _ => by
        rw [layTo_succ]
        by_cases h : t = i * m + j
        · rw [if_pos h, if_pos h, h]
        · rw [if_neg h, if_neg h])
      rw [e]
      exact ih (j + 1) (by omega)
theorem join_outer {nb B : Nat} (hm : m ≤ 4096) (hn : n ≤ 8192) (hL : ∀ i, L i ≤ 8192) (hb : nb ≤ 15) (hg : ∀ s u, (g s u).natAbs ≤ B) (hB : fit (20 * B)) :
    ∀ d i, i + d = nb → Ev (fun k => split_Join.l1 k (m : Int) (n : Int) (RT (reach m n L nb) (lay m L g i)) (blocks L g nb) (nb : Int) (i : Int)) (if (n : Int) ≤ top (lay m L g nb) (reach m n L nb) then ([], 5) else (RT n (lay m L g nb), 0)) := by
  have hr := reach_le m n L hm hn hL nb hb
  intro d
  induction d with
  | zero =>
    intro i hi
    obtain rfl : i = nb := by omega
    refine Ev.step (f := fun k => (poly_Degree.f k (RT (reach m n L i) (lay m L g i))).bind fun t => if t ≥ (n : Int) then some ([], 5) else some (RT n (lay m L g i), 0)) (fun k => ?_) ?_
    · simp only [split_Join.l1]
      rw [if_neg (by omega)]
      have hn0 := reach_n m n L i
      congr 1
      funext t
      by_cases ht : t ≥ (n : Int)
      · rw [if_pos ht, if_pos ht]
      · rw [if_neg ht, if_neg ht]
        by_cases h0 : n = 0
        · subst h0; rfl
        · rw [if_neg (by omega), if_pos (by omega), RT_len, if_pos (by omega), Int.toNat_natCast, RT_take _ hn0]
    · refine Ev.bind (deg_ev _ _ (by omega)) ?_
      by_cases ht : (n : Int) ≤ top (lay m L g i) (reach m n L i)
      · refine ev_pos ht ?_
        rw [if_pos ht]; exact Ev.now _
      · refine ev_neg ht ?_
        rw [if_neg ht]; exact Ev.now _
  | succ d ih =>
    intro i hi
    have hlt : i < nb := by omega
    have h := join_inner hm hn hL hb hg hB hlt (ih (i + 1) (by omega)) (L i) 0 (by omega)
    refine Ev.step (f := fun k => split_Join.l2 k (m : Int) (n : Int) (RT (reach m n L nb) (layTo m L g i 0)) (i : Int) (blocks L g nb) (nb : Int) (i : Int) (RT (L i) (g i)) (L i : Int) ((0 : Nat) : Int)) (fun k => ?_) h
    simp only [split_Join.l1]
    rw [if_pos (by omega), if_pos (by omega), if_pos (by unfold blocks; rw [tab_length]; omega), RT_congr (fun t _ => layTo_zero m L g i t)]
    unfold blocks
    rw [rd_tab _ hlt, RT_len]
    rfl
theorem join_reach {nb : Nat} (hm : m ≤ 4096) (hn : n ≤ 8192) (hL : ∀ i, L i ≤ 8192) (hb : nb ≤ 15) {Q : List S39 × Int}
    (cont : Ev (fun k => split_Join.l1 k (m : Int) (n : Int) (RT (reach m n L nb) (lay m L g 0)) (blocks L g nb) (nb : Int) ((0 : Nat) : Int)) Q) :
    ∀ d i, i + d = nb → Ev (fun k => split_Join.l0 k (blocks L g nb) (m : Int) (n : Int) (reach m n L i : Int) (blocks L g nb) (nb : Int) (i : Int)) Q := by
  have hr := reach_le m n L hm hn hL nb hb
  intro d
  induction d with
  | zero =>
    intro i hi
    obtain rfl : i = nb := by omega
    refine Ev.step (f := fun k => split_Join.l1 k (m : Int) (n : Int) (RT (reach m n L i) (lay m L g 0)) (blocks L g i) (i : Int) ((0 : Nat) : Int)) (fun k => ?_) cont
    simp only [split_Join.l0]
    rw [if_neg (by omega), if_pos (by omega), Int.toNat_natCast, if_pos (by omega), RT_replicate]
    unfold blocks
    rw [tab_length]
    rfl
  | succ d ih =>
    intro i hi
    have hlt : i < nb := by omega
    have him : i * m ≤ 14 * 4096 := Nat.mul_le_mul (by omega) hm
    have hLi := hL i
    refine Ev.step (f := fun k => split_Join.l0 k (blocks L g nb) (m : Int) (n : Int) (reach m n L (i + 1) : Int) (blocks L g nb) (nb : Int) ((i + 1 : Nat) : Int)) (fun k => ?_) (ih (i + 1) (by omega))
    simp only [split_Join.l0]
    have e1 : wrap64 ((i : Int) * (m : Int)) = ((i * m : Nat) : Int) := by rw [← Int.natCast_mul, wrap64_in] <;> omega
    have e2 : wrap64 (((i * m : Nat) : Int) + (L i : Int)) = ((i * m + L i : Nat) : Int) := by rw [wrap64_in] <;> omega
    have e3 : mx ((reach m n L i : Nat) : Int) ((i * m + L i : Nat) : Int) = ((reach m n L (i + 1) : Nat) : Int) := by
      show _ = ((max (reach m n L i) (i * m + L i) : Nat) : Int)
      unfold mx; split <;> omega
    have e4 : rd_L5 (blocks L g nb) (i : Int) = RT (L i) (g i) := rd_tab _ hlt
    rw [e4, RT_len, e1, e2, e3, if_pos (by omega), if_pos (by omega), if_pos (by unfold blocks; rw [tab_length]; omega), if_neg (by omega), next hlt (by omega)]
/-- Blocks laid together. -/
theorem join_ev {nb B : Nat} (m1 : 1 ≤ m) (hm : m ≤ 4096) (hn : n ≤ 8192) (hL : ∀ i, L i ≤ 8192) (hb : nb ≤ 15) (hg : ∀ s u, (g s u).natAbs ≤ B) (hB : fit (20 * B)) :
    Ev (fun k => split_Join.f k (blocks L g nb) (m : Int) (n : Int)) (if (n : Int) ≤ top (lay m L g nb) (reach m n L nb) then ([], 5) else (RT n (lay m L g nb), 0)) := by
  unfold split_Join.f
  refine ev_neg (by omega) (ev_neg (by omega) (ev_neg (by omega) ?_))
  rw [decide_eq_false (by omega)]
  have h := join_reach hm hn hL hb (join_outer hm hn hL hb hg hB nb 0 (by omega)) nb 0 (by omega)
  refine Ev.step (f := fun k => split_Join.l0 k (blocks L g nb) (m : Int) (n : Int) (reach m n L 0 : Int) (blocks L g nb) (nb : Int) ((0 : Nat) : Int)) (fun k => ?_) h
  simp only [split_Join.j0]
  rw [if_neg (by decide)]
  unfold blocks
  rw [tab_length, if_neg (by omega)]
  rfl
theorem join_ok {nb B : Nat} (m1 : 1 ≤ m) (hm : m ≤ 4096) (hn : n ≤ 8192) (hL : ∀ i, L i ≤ 8192) (hb : nb ≤ 15) (hg : ∀ s u, (g s u).natAbs ≤ B) (hB : fit (20 * B)) (hz : ∀ t, n ≤ t → lay m L g nb t = 0) :
    Ev (fun k => split_Join.f k (blocks L g nb) (m : Int) (n : Int)) (RT n (lay m L g nb), 0) := by
  have h := join_ev (n := n) m1 hm hn hL hb hg hB
  have := top_small (c := lay m L g nb) (n := n) (d := reach m n L nb) (fun t h1 _ => hz t h1)
  rw [if_neg (by omega)] at h
  exact h
end
end Go.Proofs.YtakmkhokbcjapaaDoor.PolyB
end

section
/- The law SplitLaid, over numbers. -/
namespace Go.Proofs.YtakmkhokbcjapaaDoor.Pure
open Go Go.RowKit Go.Proofs.YtakmkhokbcjapaaDoorW.PrintWords Go.Proofs.YtakmkhokbcjapaaDoorW.PrintLast Go.Proofs.YtakmkhokbcjapaaDoorW.PrintMore Go.Proofs.YtakmkhokbcjapaaDoor.XA Go.Proofs.YtakmkhokbcjapaaDoor.Nums Go.Proofs.YtakmkhokbcjapaaDoor.Evs Go.Proofs.YtakmkhokbcjapaaDoor.IntA Go.Proofs.YtakmkhokbcjapaaDoor.IntB Go.Proofs.YtakmkhokbcjapaaDoor.IntC Go.Proofs.YtakmkhokbcjapaaDoor.Tabs Go.Proofs.YtakmkhokbcjapaaDoor.Sums Go.Proofs.YtakmkhokbcjapaaDoor.PolyA Go.Proofs.YtakmkhokbcjapaaDoor.PolyB Go.Proofs.YtakmkhokbcjapaaDoor.SaidSplitLaid
open Go.Proofs.YtakmkhokbcjapaaDoor.PlainSplit (works_ev block_ev blk blk_bound)
set_option linter.unusedVariables false
set_option linter.unusedSimpArgs false
theorem lay_part (n m : Nat) (x : Nat → Int) (t : Nat) : ∀ i, lay m (fun _ => m) (PolyB.part n m x) i t = if t < i * m then ext n x t else 0
  | 0 => by rw [Nat.zero_mul, if_neg (by omega)]; rfl
  | i + 1 => by
    show lay m (fun _ => m) (PolyB.part n m x) i t + (if i * m ≤ t then ext m (PolyB.part n m x i) (t - i * m) else 0) = _
    rw [lay_part n m x t i, Nat.succ_mul]
    by_cases h1 : t < i * m
    · rw [if_pos h1, if_neg (by omega), if_pos (by omega)]; omega
    · rw [if_neg h1, if_pos (by omega)]
      by_cases h2 : t < i * m + m
      · rw [if_pos h2, ext_in (by omega)]
        unfold PolyB.part
        rw [show i * m + (t - i * m) = t by omega]; omega
      · rw [if_neg h2, ext_out (by omega)]; omega
section
variable (m k2 : Nat) (x y : Nat → Nat → Int)
/-- The product of two parts; what the sums hold behind some of the products. -/
def cc (i j t : Nat) : Int := conv m m (x i) (y j) t
def vv (i j s t : Nat) : Int := sumN i (fun a => sumN k2 (fun b => if a + b = s then cc m x y a b t else 0)) + sumN j (fun b => if i + b = s then cc m x y i b t else 0)
def bdy (i j : Nat) : Nat := max (if i = 0 then 0 else i + k2 - 1) (i + j)
def ln (i j s : Nat) : Nat := if s < bdy k2 i j then 2 * m - 1 else 0
def row (i j s : Nat) : List S39 := RT (ln m k2 i j s) (vv m k2 x y i j s)
theorem vv_out {i j s t : Nat} (h : bdy k2 i j ≤ s) : vv m k2 x y i j s t = 0 := by
  unfold bdy at h
  unfold vv
  rw [sumN_zero (n := i) (fun a ha => sumN_zero (fun b hb => if_neg (by by_cases e : i = 0 <;> simp only [e, if_true, if_false] at h <;> omega))), sumN_zero (n := j) (fun b hb => if_neg (by omega))]
  rfl
theorem vv_succ (i j s t : Nat) : vv m k2 x y i (j + 1) s t = if s = i + j then vv m k2 x y i j s t + cc m x y i j t else vv m k2 x y i j s t := by
  show sumN i _ + (sumN j _ + (if i + j = s then cc m x y i j t else 0)) = _
  unfold vv
  by_cases h : s = i + j
  · rw [if_pos h, if_pos h.symm]; omega
  · rw [if_neg h, if_neg (fun h' => h h'.symm)]; omega
theorem vv_next (i s t : Nat) : vv m k2 x y i k2 s t = vv m k2 x y (i + 1) 0 s t := by
  show sumN i _ + sumN k2 _ = (sumN i _ + sumN k2 _) + 0
  rw [Int.add_zero]
theorem bdy_next (i : Nat) (h : 1 ≤ k2) : bdy k2 i k2 = bdy k2 (i + 1) 0 := by
  unfold bdy
  rw [if_neg (show ¬ (i + 1 = 0) by omega)]
  split <;> omega
theorem row_next (i s : Nat) (h : 1 ≤ k2) : row m k2 x y i k2 s = row m k2 x y (i + 1) 0 s := by
  unfold row ln
  rw [bdy_next k2 i h]
  exact RT_congr (fun t _ => vv_next m k2 x y i s t)
theorem bdy_succ (i j : Nat) (h : j < k2) : bdy k2 i (j + 1) = max (bdy k2 i j) (i + j + 1) := by
  unfold bdy
  split <;> omega
theorem bdy_ge (i j : Nat) : i + j ≤ bdy k2 i j := by unfold bdy; omega
theorem row_other {i j s : Nat} (hj : j < k2) (h : s ≠ i + j) : row m k2 x y i (j + 1) s = row m k2 x y i j s := by
  have h0 := bdy_ge k2 i j
  unfold row ln
  rw [bdy_succ k2 i j hj]
  rw [show (if s < max (bdy k2 i j) (i + j + 1) then 2 * m - 1 else 0) = (if s < bdy k2 i j then 2 * m - 1 else 0) by
    by_cases c : s < bdy k2 i j
    · rw [if_pos c, if_pos (by omega)]
    · rw [if_neg c, if_neg (by omega)]]
  exact RT_congr (fun t _ => by rw [vv_succ, if_neg h])
theorem row_here {i j : Nat} (hj : j < k2) : row m k2 x y i (j + 1) (i + j) = RT (max (ln m k2 i j (i + j)) (2 * m - 1)) (fun t => ext (ln m k2 i j (i + j)) (vv m k2 x y i j (i + j)) t + ext (2 * m - 1) (cc m x y i j) t) := by
  unfold row
  have e1 : ln m k2 i (j + 1) (i + j) = 2 * m - 1 := by unfold ln; rw [bdy_succ k2 i j hj, if_pos (by omega)]
  have e2 : max (ln m k2 i j (i + j)) (2 * m - 1) = 2 * m - 1 := by unfold ln; split <;> omega
  rw [e1, e2]
  refine RT_congr (fun t ht => ?_)
  rw [vv_succ, if_pos rfl, ext_in (n := 2 * m - 1) ht]
  by_cases c : i + j < bdy k2 i j
  · rw [show ln m k2 i j (i + j) = 2 * m - 1 from if_pos c, ext_in ht]
  · rw [show ln m k2 i j (i + j) = 0 from if_neg c, ext_out (Nat.zero_le _), vv_out m k2 x y (by omega)]
theorem vv_abs {B : Nat} (hB : ∀ i j t, (cc m x y i j t).natAbs ≤ B) (i j s t : Nat) : (vv m k2 x y i j s t).natAbs ≤ i * (k2 * B) + j * B := by
  have hif : ∀ a b, (if a + b = s then cc m x y a b t else 0).natAbs ≤ B := by
    intro a b
    split
    · exact hB a b t
    · simp
  have h1 : (sumN i (fun a => sumN k2 (fun b => if a + b = s then cc m x y a b t else 0))).natAbs ≤ i * (k2 * B) := sumN_abs (fun a _ => sumN_abs (fun b _ => hif a b))
  have h2 : (sumN j (fun b => if i + b = s then cc m x y i b t else 0)).natAbs ≤ j * B := sumN_abs (fun b _ => hif i b)
  unfold vv
  omega
end
section
variable {m k1 k2 : Nat} {x y : Nat → Nat → Int} {X9 X10 : List S39}
/-- What is known of the parts: small enough. -/
structure Small (m : Nat) (x y : Nat → Nat → Int) : Prop where
  hx : ∀ i a, sm (x i a)
  hy : ∀ i a, sm (y i a)
  hp : ∀ i j a b, sm (x i a * y j b)
  hs : ∀ i j a b t, a ≤ m → b ≤ m → sm (psum m (x i) (y j) a b t)
  hc : ∀ i j t, sm (cc m x y i j t)
theorem laid_inner (m1 : 1 ≤ m) (hm : m ≤ 4096) (h1 : k1 ≤ 8) (h2 : 1 ≤ k2) (h22 : k2 ≤ 8) (S : Small m x y) (hv : ∀ i j s t, i ≤ 8 → j ≤ 8 → sm (vv m k2 x y i j s t)) {i : Nat} (hi : i < k1)
    (cont : Ev (fun k => swagelaw21_SplitLaid.l0 k X9 X10 (m : Int) (tab k1 (fun s => RT m (x s))) (tab k2 (fun s => RT m (y s))) (tab (k1 + k2 - 1) (row m k2 x y (i + 1) 0)) (k1 : Int) ((i + 1 : Nat) : Int)) true) :
    ∀ d j, j + d = k2 → Ev (fun k => swagelaw21_SplitLaid.l1 k X9 X10 (m : Int) (tab k1 (fun s => RT m (x s))) (tab k2 (fun s => RT m (y s))) (tab (k1 + k2 - 1) (row m k2 x y i j)) (i : Int) (k1 : Int) (i : Int) (k2 : Int) (j : Int)) true := by
  intro d
  induction d with
  | zero =>
    intro j hj
    obtain rfl : j = k2 := by omega
    refine Ev.step (f := _) (fun k => by simp only [swagelaw21_SplitLaid.l1]; rw [if_neg (by omega)]) ?_
    rw [next hi (by omega), tab_congr (fun s _ => row_next m j x y i s h2)]
    exact cont
  | succ d ih =>
    intro j hj
    have hlt : j < k2 := by omega
    obtain ⟨r, hr⟩ := mul_rows (nx := m) (ny := m) (x := x i) (y := y j) m1 m1 (by omega) (S.hx i) (S.hy j) (S.hp i j) (S.hs i j)
    have e1 : wrap64 ((i : Int) + (j : Int)) = ((i + j : Nat) : Int) := by rw [← Int.natCast_add]; exact wrapN (by omega)
    have c1 : (j : Int) < (k2 : Int) := by omega
    have c2 : (i : Int) < ((tab k1 (fun s => RT m (x s))).length : Int) := by rw [tab_length]; omega
    have c3 : (j : Int) < ((tab k2 (fun s => RT m (y s))).length : Int) := by rw [tab_length]; omega
    have c4 : ((i + j : Nat) : Int) < ((tab (k1 + k2 - 1) (row m k2 x y i j)).length : Int) := by rw [tab_length]; omega
    have c5 : i + j < k1 + k2 - 1 := by omega
    have c6 : m + m - 1 ≤ 100000 := by omega
    have hl : ln m k2 i j (i + j) ≤ 100000 := by unfold ln; split <;> omega
    have ha := add_rows (ln m k2 i j (i + j)) (m + m - 1) (vv m k2 x y i j (i + j)) (cc m x y i j) hl c6 (fun t => hv i j _ t (by omega) (by omega)) (S.hc i j)
    refine Ev.step (f := fun k => (poly_Mul.f k (RT m (x i)) (RT m (y j))).bind fun bt => ((poly_Add.f k (row m k2 x y i j (i + j)) bt.1).bind fun t => swagelaw21_SplitLaid.l1 k X9 X10 (m : Int) (tab k1 (fun s => RT m (x s))) (tab k2 (fun s => RT m (y s))) ((tab (k1 + k2 - 1) (row m k2 x y i j)).set (i + j) t) (i : Int) (k1 : Int) (i : Int) (k2 : Int) ((j + 1 : Nat) : Int))) (fun k => ?_) ?_
    · simp only [swagelaw21_SplitLaid.l1, e1, if_pos c4, if_pos (Int.natCast_nonneg (i + j))]
      rw [if_pos c1, if_pos (Int.natCast_nonneg i), if_pos c2, if_pos (Int.natCast_nonneg j), if_pos c3, rd_tab (fun s => RT m (x s)) hi, rd_tab (fun s => RT m (y s)) hlt, rd_tab (row m k2 x y i j) c5, next hlt (by omega), Int.toNat_natCast]
    · refine Ev.bind hr (Ev.bind ha ?_)
      have h := ih (j + 1) (by omega)
      have e : (tab (k1 + k2 - 1) (row m k2 x y i j)).set (i + j) (RT (max (ln m k2 i j (i + j)) (m + m - 1)) (fun t => ext (ln m k2 i j (i + j)) (vv m k2 x y i j (i + j)) t + ext (m + m - 1) (cc m x y i j) t)) = tab (k1 + k2 - 1) (row m k2 x y i (j + 1)) := by
        rw [tab_set]
        refine tab_congr (fun s _ => ?_)
        show (if s = i + j then _ else row m k2 x y i j s) = _
        by_cases c : s = i + j
        · rw [if_pos c, c, row_here m k2 x y hlt, show 2 * m - 1 = m + m - 1 by omega]
        · rw [if_neg c, row_other m k2 x y hlt c]
      rw [← e] at h
      exact h
theorem laid_outer (m1 : 1 ≤ m) (hm : m ≤ 4096) (h1 : k1 ≤ 8) (h2 : 1 ≤ k2) (h22 : k2 ≤ 8) (S : Small m x y) (hv : ∀ i j s t, i ≤ 8 → j ≤ 8 → sm (vv m k2 x y i j s t))
    (cont : Ev (fun k => swagelaw21_SplitLaid.l0 k X9 X10 (m : Int) (tab k1 (fun s => RT m (x s))) (tab k2 (fun s => RT m (y s))) (tab (k1 + k2 - 1) (row m k2 x y k1 0)) (k1 : Int) (k1 : Int)) true) :
    ∀ d i, i + d = k1 → Ev (fun k => swagelaw21_SplitLaid.l0 k X9 X10 (m : Int) (tab k1 (fun s => RT m (x s))) (tab k2 (fun s => RT m (y s))) (tab (k1 + k2 - 1) (row m k2 x y i 0)) (k1 : Int) (i : Int)) true := by
  intro d
  induction d with
  | zero =>
    intro i hi
    obtain rfl : i = k1 := by omega
    exact cont
  | succ d ih =>
    intro i hi
    have hlt : i < k1 := by omega
    refine Ev.step (f := _) (fun k => by simp only [swagelaw21_SplitLaid.l0]; rw [if_pos (by omega), tab_length]) ?_
    exact laid_inner m1 hm h1 h2 h22 S hv hlt (ih (i + 1) (by omega)) k2 0 (by omega)
end
/-- The sums laid together are the product. -/
theorem laid_sum {n1 n2 k1 k2 m : Nat} (m1 : 1 ≤ m) (h2 : 1 ≤ k2) (h1 : 1 ≤ k1) (hn1 : n1 ≤ k1 * m) (hn2 : n2 ≤ k2 * m) (x y : Nat → Int) (t : Nat) :
    lay m (fun s => ln m k2 k1 0 s) (fun s => vv m k2 (PolyB.part n1 m x) (PolyB.part n2 m y) k1 0 s) (k1 + k2 - 1) t = conv n1 n2 x y t := by
  have hv : ∀ s u, vv m k2 (PolyB.part n1 m x) (PolyB.part n2 m y) k1 0 s u = sumN k1 (fun a => sumN k2 (fun b => if a + b = s then cc m (PolyB.part n1 m x) (PolyB.part n2 m y) a b u else 0)) := fun s u => Int.add_zero _
  have hb : bdy k2 k1 0 = k1 + k2 - 1 := by unfold bdy; rw [if_neg (by omega)]; omega
  have e1 : ∀ s, s < k1 + k2 - 1 → (if s * m ≤ t then ext (ln m k2 k1 0 s) (vv m k2 (PolyB.part n1 m x) (PolyB.part n2 m y) k1 0 s) (t - s * m) else 0) = sumN k1 (fun a => sumN k2 (fun b => if a + b = s ∧ (a + b) * m ≤ t then cc m (PolyB.part n1 m x) (PolyB.part n2 m y) a b (t - (a + b) * m) else 0)) := by
    intro s hs
    by_cases c : s * m ≤ t
    · rw [if_pos c, show ln m k2 k1 0 s = 2 * m - 1 by unfold ln; rw [hb, if_pos hs]]
      have e : ext (2 * m - 1) (vv m k2 (PolyB.part n1 m x) (PolyB.part n2 m y) k1 0 s) (t - s * m) = vv m k2 (PolyB.part n1 m x) (PolyB.part n2 m y) k1 0 s (t - s * m) := by
        by_cases c2 : t - s * m < 2 * m - 1
        · rw [ext_in c2]
        · rw [ext_out (by omega), hv]
          symm
          exact sumN_zero (fun a _ => sumN_zero (fun b _ => by
            split
            · exact conv_out (by omega)
            · rfl))
      rw [e, hv]
      refine sumN_congr (fun a _ => sumN_congr (fun b _ => ?_))
      by_cases c3 : a + b = s
      · rw [if_pos c3, if_pos ⟨c3, by rw [c3]; exact c⟩, c3]
      · rw [if_neg c3, if_neg (fun h => c3 h.1)]
    · rw [if_neg c]
      symm
      exact sumN_zero (fun a _ => sumN_zero (fun b _ => if_neg (fun h => c (by rw [← h.1]; exact h.2))))
  show sumN (k1 + k2 - 1) (fun s => if s * m ≤ t then ext (ln m k2 k1 0 s) (vv m k2 (PolyB.part n1 m x) (PolyB.part n2 m y) k1 0 s) (t - s * m) else 0) = _
  rw [sumN_congr e1, sumN_comm]
  have e2 : sumN k1 (fun a => sumN (k1 + k2 - 1) (fun s => sumN k2 (fun b => if a + b = s ∧ (a + b) * m ≤ t then cc m (PolyB.part n1 m x) (PolyB.part n2 m y) a b (t - (a + b) * m) else 0))) = sumN k1 (fun a => sumN k2 (fun b => if (a + b) * m ≤ t then conv m m (fun u => ext n1 x (a * m + u)) (fun v => ext n2 y (b * m + v)) (t - (a + b) * m) else 0)) := by
    refine sumN_congr (fun a ha => ?_)
    rw [sumN_comm]
    refine sumN_congr (fun b hb' => ?_)
    have hs : a + b < k1 + k2 - 1 := by omega
    rw [sumN_one hs (fun s _ hne => if_neg (fun h => hne h.1.symm))]
    by_cases c : (a + b) * m ≤ t
    · rw [if_pos ⟨rfl, c⟩, if_pos c]; rfl
    · rw [if_neg (fun h => c h.2), if_neg c]
  rw [e2, conv_parts, conv_ext hn1 hn2]
theorem getD_abs {l : List Int} (h : ∀ z ∈ l, (Lit.int .i64 z).wf = true) (i : Nat) : (l.getD i 0).natAbs ≤ 9223372036854775808 := by
  by_cases c : i < l.length
  · rw [List.getD_eq_getElem?_getD, List.getElem?_eq_getElem c]
    have := Go.bounds_i64 (h _ (List.getElem_mem c))
    show (l[i]).natAbs ≤ _
    omega
  · rw [List.getD_eq_getElem?_getD, List.getElem?_eq_none (by omega)]
    decide
theorem getD_rng {l : List Int} (h : ∀ z ∈ l, (Lit.int .i64 z).wf = true) (i : Nat) (c : i < l.length) : -9223372036854775808 ≤ l.getD i 0 ∧ l.getD i 0 ≤ 9223372036854775807 := by
  rw [List.getD_eq_getElem?_getD, List.getElem?_eq_getElem c]
  exact Go.bounds_i64 (h _ (List.getElem_mem c))
def BW : Nat := 4096 * (4096 * (9223372036854775808 * 9223372036854775808))
theorem pw (a b : Nat) (h : a ≤ b) : 2 ^ a ≤ 2 ^ b := Nat.pow_le_pow_right (by decide) h
theorem fit_of {x : Nat} (h : x < 2 ^ 200) : fit x := Nat.lt_of_lt_of_le h (pw 200 1000 (by decide))
theorem fitW : fit 9223372036854775808 := fit_of (by decide)
theorem fitWW : fit (9223372036854775808 * 9223372036854775808) := fit_of (by decide)
theorem fitBW : fit (2000 * BW) := fit_of (by unfold BW; decide)
theorem leBW : 4096 * (9223372036854775808 * 9223372036854775808) ≤ BW := Nat.le_mul_of_pos_left _ (by decide)
theorem SplitLaid : SaidSplitLaid.Pure := by
  intro a b q1 q2 ha hb w1 w2
  obtain ⟨ha1, _, ha3⟩ := ha
  obtain ⟨hb1, _, hb3⟩ := hb
  apply Ev.rounds
  unfold swagelaw21_SplitLaid.f
  refine Ev.bind works_ev (ev_pos rfl ?_)
  have yes : Ev (fun k => swagelaw21_SplitLaid.j0 k a b q1 q2 true) true := Ev.step (f := fun _ => some true) (fun k => by simp only [swagelaw21_SplitLaid.j0]; rfl) (Ev.now _)
  by_cases c1 : (a.length : Int) > 60
  · exact ev_pos c1 yes
  refine ev_neg c1 ?_
  by_cases c2 : 60 < b.length
  · rw [decide_eq_true c2]; exact yes
  rw [decide_eq_false c2]
  clear yes
  have la : a.length ≤ 60 := by omega
  have lb : b.length ≤ 60 := by omega
  refine Ev.step (f := _) (fun k => by simp only [swagelaw21_SplitLaid.j0]; rfl) ?_
  refine Ev.congr (f := fun k => _) (fun k => if_neg (by decide)) ?_
  refine Ev.bind (list_ev a (by omega) (getD_rng ha3)) (Ev.bind (list_ev b (by omega) (getD_rng hb3)) (Ev.bind (block_ev (a.length : Int) (b.length : Int) q1 q2) ?_))
  by_cases hR : PlainSplit.R (a.length : Int) (b.length : Int) q1 q2
  · rw [if_pos hR]
    refine ev_pos rfl ?_
    obtain ⟨f1, f2, f3, _⟩ := short_facts hR
    have hbd := blk_bound hR
    have hR' := hR
    unfold PlainSplit.R at hR'
    simp only
    generalize hM : blk (a.length : Int) (b.length : Int) q1 q2 = M at *
    by_cases cm : M < 1
    · rw [decide_eq_true cm]
      exact Ev.step (f := fun _ => some true) (fun k => by simp only [swagelaw21_SplitLaid.j1]; rfl) (Ev.now _)
    rw [decide_eq_false cm]
    obtain ⟨m, rfl⟩ : ∃ m : Nat, M = (m : Int) := ⟨M.toNat, by omega⟩
    obtain ⟨k1, rfl⟩ : ∃ k : Nat, q1 = (k : Int) := ⟨q1.toNat, by omega⟩
    obtain ⟨k2, rfl⟩ : ∃ k : Nat, q2 = (k : Int) := ⟨q2.toNat, by omega⟩
    have m1 : 1 ≤ m := by omega
    have hm : m ≤ 4096 := by omega
    have g1 : a.length ≤ k1 * m := by rw [← Int.natCast_mul] at f2; omega
    have g2 : b.length ≤ k2 * m := by rw [← Int.natCast_mul] at f3; omega
    have k11 : 1 ≤ k1 := by omega
    have k18 : k1 ≤ 8 := by omega
    have k21 : 1 ≤ k2 := by omega
    have k28 : k2 ≤ 8 := by omega
    clear f1 f2 f3 hbd hR hR' hM cm w1 w2 c1 c2
    have hx : ∀ i, (a.getD i 0).natAbs ≤ 9223372036854775808 := getD_abs ha3
    have hy : ∀ i, (b.getD i 0).natAbs ≤ 9223372036854775808 := getD_abs hb3
    generalize hxf : (fun j => a.getD j 0) = xf
    generalize hyf : (fun j => b.getD j 0) = yf
    have hx : ∀ i, (xf i).natAbs ≤ 9223372036854775808 := by rw [← hxf]; exact hx
    have hy : ∀ i, (yf i).natAbs ≤ 9223372036854775808 := by rw [← hyf]; exact hy
    have hpx : ∀ i u, (PolyB.part a.length m xf i u).natAbs ≤ 9223372036854775808 := fun i u => ext_abs hx _
    have hpy : ∀ i u, (PolyB.part b.length m yf i u).natAbs ≤ 9223372036854775808 := fun i u => ext_abs hy _
    -- the parts, and back
    refine Ev.step (f := _) (fun k => by simp only [swagelaw21_SplitLaid.j1]; rfl) ?_
    refine Ev.congr (f := fun k => _) (fun k => if_neg (by decide)) ?_
    refine Ev.bind (parts_ev a.length k1 m xf (by omega) k18 hm k11 m1 g1) (Ev.bind (parts_ev b.length k2 m yf (by omega) k28 hm k21 m1 g2) ?_)
    have hj := join_ok (n := a.length) (m := m) (L := fun _ => m) (g := PolyB.part a.length m xf) (nb := k1) (B := 9223372036854775808) m1 hm (by omega) (fun _ => by omega) (by omega) hpx (fit_of (by decide)) (fun t ht => by
      rw [lay_part]; split
      · exact ext_out ht
      · rfl)
    have hal : Ev (fun k => swagelaw21_alike.f k (RT a.length (lay m (fun _ => m) (PolyB.part a.length m xf) k1)) (RT a.length xf)) true := by
      have e : ∀ t, t < a.length → lay m (fun _ => m) (PolyB.part a.length m xf) k1 t = xf t := fun t ht => by rw [lay_part, if_pos (by omega), ext_in ht]
      refine alike_rows a.length _ xf (by omega) (fun t ht => ?_) e
      rw [e t ht]; exact sm_of (hx t) fitW
    have hj' : Ev (fun k => split_Join.f k (tab k1 (fun s => RT m (PolyB.part a.length m xf s))) (m : Int) ((RT a.length xf).length : Int)) (RT a.length (lay m (fun _ => m) (PolyB.part a.length m xf) k1), 0) := by rw [RT_len]; exact hj
    refine Ev.bind hj' (ev_pos rfl (ev_pos rfl (ev_pos rfl (ev_pos (by rw [tab_length]) (ev_pos (by rw [tab_length]) (Ev.bind hal ?_))))))
    clear hj hj' hal
    -- the products
    have hcc : ∀ i j t, (cc m (PolyB.part a.length m xf) (PolyB.part b.length m yf) i j t).natAbs ≤ BW := fun i j t => Nat.le_trans (conv_abs (hpx i) (hpy j) m m t) (Nat.mul_le_mul hm (Nat.mul_le_mul hm (Nat.le_refl _)))
    have hvv : ∀ i j s t, i ≤ 8 → j ≤ 8 → (vv m k2 (PolyB.part a.length m xf) (PolyB.part b.length m yf) i j s t).natAbs ≤ 72 * BW := fun i j s t hi hj => by
      refine Nat.le_trans (vv_abs m k2 _ _ hcc i j s t) ?_
      have h1 : i * (k2 * BW) ≤ 8 * (8 * BW) := Nat.mul_le_mul hi (Nat.mul_le_mul k28 (Nat.le_refl _))
      have h2 : j * BW ≤ 8 * BW := Nat.mul_le_mul hj (Nat.le_refl _)
      generalize BW = B at *
      omega
    have hsv : ∀ i j s t, i ≤ 8 → j ≤ 8 → sm (vv m k2 (PolyB.part a.length m xf) (PolyB.part b.length m yf) i j s t) := fun i j s t hi hj => sm_of (hvv i j s t hi hj) (fit_le (by generalize BW = B; omega) fitBW)
    have S : Small m (PolyB.part a.length m xf) (PolyB.part b.length m yf) := by
      refine ⟨fun i u => sm_of (hpx i u) fitW, fun i u => sm_of (hpy i u) fitW, fun i j u v => ?_, fun i j u v t hu hv => ?_, fun i j t => sm_of (hcc i j t) (fit_le (by generalize BW = B; omega) fitBW)⟩
      · refine sm_of (B := 9223372036854775808 * 9223372036854775808) ?_ fitWW
        rw [Int.natAbs_mul]; exact Nat.mul_le_mul (hpx i u) (hpy j v)
      · refine sm_of (B := 2 * BW) (Nat.le_trans (psum_abs (hpx i) (hpy j) m u v t) ?_) (fit_le (by generalize BW = B; omega) fitBW)
        have h1 : u * (m * (9223372036854775808 * 9223372036854775808)) ≤ BW := Nat.mul_le_mul (Nat.le_trans hu hm) (Nat.mul_le_mul hm (Nat.le_refl _))
        have h2 : v * (9223372036854775808 * 9223372036854775808) ≤ BW := Nat.le_trans (Nat.mul_le_mul (Nat.le_trans hv hm) (Nat.le_refl _)) leBW
        generalize BW = B at *
        generalize u * (m * (9223372036854775808 * 9223372036854775808)) = A at *
        generalize v * (9223372036854775808 * 9223372036854775808) = C at *
        omega
    refine Ev.step (f := _) (fun k => by simp only [swagelaw21_SplitLaid.j2]; rfl) ?_
    refine Ev.congr (f := fun k => _) (fun k => if_neg (by decide)) ?_
    have ew : wrap64 (wrap64 ((k1 : Int) + (k2 : Int)) - 1) = ((k1 + k2 - 1 : Nat) : Int) := by
      rw [wrap64_in (x := (k1 : Int) + (k2 : Int)) (by omega) (by omega), wrap64_in (by omega) (by omega)]; omega
    rw [ew]
    refine ev_pos (by omega) (ev_pos (by rw [Int.toNat_natCast]; omega) ?_)
    rw [Int.toNat_natCast, tab_replicate, tab_length]
    have e0 : tab (k1 + k2 - 1) (fun _ => ([] : List S39)) = tab (k1 + k2 - 1) (row m k2 (PolyB.part a.length m xf) (PolyB.part b.length m yf) 0 0) := tab_congr (fun s _ => by
      unfold row ln bdy
      rw [if_pos rfl, if_neg (by omega)]; rfl)
    rw [e0]
    refine laid_outer m1 hm k18 k21 k28 S hsv ?_ k1 0 (by omega)
    -- behind the loops
    refine Ev.step (f := _) (fun k => by simp only [swagelaw21_SplitLaid.l0]; rw [if_neg (by omega)]) ?_
    have hsum := laid_sum (m := m) m1 k21 k11 g1 g2 xf yf
    have last : ∀ N : Nat, N ≤ 8192 → (∀ t, N ≤ t → conv a.length b.length xf yf t = 0) → ∀ r : Int, Ev (fun k => (split_Join.f k (tab (k1 + k2 - 1) (row m k2 (PolyB.part a.length m xf) (PolyB.part b.length m yf) k1 0)) (m : Int) ((RT N (conv a.length b.length xf yf)).length : Int)).bind fun bt823 => (if bt823.2 = 0 then ((swagelaw21_alike.f k bt823.1 (RT N (conv a.length b.length xf yf))).bind fun t827 => (some t827)) else (some false))) true := by
      intro N hN hz r
      rw [RT_len]
      have hj := join_ok (n := N) (m := m) (L := fun s => ln m k2 k1 0 s) (g := fun s => vv m k2 (PolyB.part a.length m xf) (PolyB.part b.length m yf) k1 0 s) (nb := k1 + k2 - 1) (B := 72 * BW) m1 hm hN (fun s => by unfold ln; split <;> omega) (by omega) (fun s u => hvv k1 0 s u k18 (by omega)) (fit_le (by generalize BW = B; omega) fitBW) (fun t ht => by rw [hsum]; exact hz t ht)
      refine Ev.bind hj (ev_pos rfl (Ev.bind ?_ (Ev.now _)))
      refine alike_rows N _ _ (by omega) (fun t _ => ?_) (fun t _ => hsum t)
      rw [hsum]
      exact sm_of (Nat.le_trans (conv_abs hx hy a.length b.length t) (show _ ≤ BW from Nat.mul_le_mul (by omega) (Nat.mul_le_mul (by omega) (Nat.le_refl _)))) (fit_le (by generalize BW = B; omega) fitBW)
    by_cases cz : a.length = 0 ∨ b.length = 0
    · refine Ev.bind (mul_none (nx := a.length) (ny := b.length) (x := xf) (y := yf) cz) ?_
      exact last 0 (by omega) (fun t _ => by
        rcases cz with c | c
        · rw [c]; rfl
        · rw [c]; exact sumN_zero (fun _ _ => rfl)) 0
    · obtain ⟨r, hr⟩ := mul_rows (nx := a.length) (ny := b.length) (x := xf) (y := yf) (by omega) (by omega) (by omega) (fun i => sm_of (hx i) fitW) (fun i => sm_of (hy i) fitW) (fun i j => sm_of (B := 9223372036854775808 * 9223372036854775808) (by rw [Int.natAbs_mul]; exact Nat.mul_le_mul (hx i) (hy j)) fitWW) (fun i j t hi hj => by
        refine sm_of (B := 2 * BW) (Nat.le_trans (psum_abs hx hy b.length i j t) ?_) (fit_le (by generalize BW = B; omega) fitBW)
        have h1 : i * (b.length * (9223372036854775808 * 9223372036854775808)) ≤ BW := Nat.mul_le_mul (by omega) (Nat.mul_le_mul (by omega) (Nat.le_refl _))
        have h2 : j * (9223372036854775808 * 9223372036854775808) ≤ BW := Nat.le_trans (Nat.mul_le_mul (show j ≤ 4096 by omega) (Nat.le_refl _)) leBW
        generalize BW = B at *
        generalize i * (b.length * (9223372036854775808 * 9223372036854775808)) = A at *
        generalize j * (9223372036854775808 * 9223372036854775808) = C at *
        omega)
      refine Ev.bind hr ?_
      exact last (a.length + b.length - 1) (by omega) (fun t ht => conv_out (by omega)) r
  · rw [if_neg hR]
    refine ev_neg (by decide) ?_
    unfold PlainSplit.R at hR
    refine Ev.step (f := _) (fun k => by simp only [swagelaw21_SplitLaid.j1]; rfl) ?_
    refine Ev.congr (f := fun k => _) (fun k => if_pos trivial) ?_
    refine ev_neg (by decide) ?_
    by_cases d1 : q1 < 1
    · exact ev_pos d1 (Ev.now _)
    refine ev_neg d1 ?_
    by_cases d2 : q2 < 1
    · exact ev_pos d2 (Ev.now _)
    refine ev_neg d2 ?_
    by_cases d3 : q1 > 8
    · exact ev_pos d3 (Ev.now _)
    refine ev_neg d3 ?_
    rw [decide_eq_true (show q2 > 8 by omega)]
    exact Ev.now _
end Go.Proofs.YtakmkhokbcjapaaDoor.Pure
end

section
/- The row and the card of the law SplitLaid, for every input: out of the pure statement and the walk. No condition. -/
namespace Go.Proofs.YtakmkhokbcjapaaDoor.splitLaid
open Go.ChangeShapes Go.WideShapes Go.ChangeAt Go.RowKit Go.Proofs.YtakmkhokbcjapaaDoorW.PrintWords Go.Proofs.YtakmkhokbcjapaaDoor.Opn Go.Proofs.YtakmkhokbcjapaaDoor.XA Go.Proofs.YtakmkhokbcjapaaDoor.SaidSplitLaid
open Go.ChangeMaps (open_string shut_string)
set_option linter.unusedVariables false
theorem own : ownKnob Tryd.prog.godebug = none := by kernel_rfl
theorem laidOut : laidOutB Tryd.prog = true := by kernel_rfl
set_option maxRecDepth 100000 in
theorem contract (H : Type) (enc : TypeId × Value → H) (W : World) (base : Nat) (args : Array Value) (ds gs : List (DataW H)) (before : List MemPlace)
    (hval0 : ∀ (j : Nat) t v, Tryd.f9.params[j]? = some t → args[j]? = some v → Value.okWide Tryd.prog W .any base t v)
    (hW : DataW.Whole enc Tryd.prog Tryd.f9.params.toList Rows.splitLaidSpec.vars false W args.toList ds gs before)
    (hsz0 : (DataW.weightsEach Tryd.prog (Tryd.f9.params.toList ++ Rows.splitLaidSpec.plain.varTypes Tryd.prog) (ds ++ gs)).all (· ≤ reachBytes) = true) :
    Calls Tryd.prog 9 args W fun e W' => ∃ v, e = .returned v ∧ Rows.splitLaidSpec.post enc Tryd.prog Tryd.f9 false true false false W args v W' := by
  have hsz : (DataW.weightsEach Tryd.prog (Tryd.f9.params.toList ++ Rows.splitLaidSpec.plain.varTypes Tryd.prog) (ds ++ gs)).all (· ≤ reachBytes) = true := hsz0
  have hval : ∀ (j : Nat) t v, Tryd.f9.params[j]? = some t → args[j]? = some v → Value.okWide Tryd.prog W .any base t v := hval0
  have hW' := hW
  obtain ⟨p, q, hA0, hV, rfl, hfz, hnd⟩ := hW
  have hA : DataW.TrodAll enc Tryd.prog W 0 (fun _ => true) true Tryd.f9.params.toList args.toList ds p := hA0
  rw [Tryd.params9] at hA hval hsz
  obtain ⟨v0, vs0, d0, ds0, p0, q0, hargs, rfl, rfl, h0, r0⟩ := trodAll_cons hA
  obtain ⟨v1, vs1, d1, ds1, p1, q1, rfl, rfl, rfl, h1, r1⟩ := trodAll_cons r0
  obtain ⟨v2, vs2, d2, ds2, p2, q2, rfl, rfl, rfl, h2, r2⟩ := trodAll_cons r1
  obtain ⟨v3, vs3, d3, ds3, p3, q3, rfl, rfl, rfl, h3, r3⟩ := trodAll_cons r2
  obtain ⟨rfl, rfl, rfl⟩ := trodAll_nil r3
  obtain rfl : args = #[v0, v1, v2, v3] := by cases args; simp_all
  obtain ⟨rfl, rfl⟩ := trodVars_none hV
  have lt0 := trod_lt h0
  obtain ⟨a0, len0, cap0, rfl⟩ := okWide_slice Tryd.underlying22 (hval 0 22 v0 rfl rfl)
  obtain ⟨x0, hK0, w0⟩ := opened (opn_slice (B := 8) Tryd.underlying22 (by kernel_rfl) (by kernel_rfl) (opn_int Tryd.underlying2)) hsz (j := 0) (t := 22) rfl rfl h0
  obtain ⟨A0, c0, he0, hl0, hC0⟩ := hK0
  simp [Value.cells] at he0
  obtain ⟨rfl, rfl, rfl⟩ := he0
  have lt1 := trod_lt h1
  obtain ⟨a1, len1, cap1, rfl⟩ := okWide_slice Tryd.underlying22 (hval 1 22 v1 rfl rfl)
  obtain ⟨x1, hK1, w1⟩ := opened (opn_slice (B := 8) Tryd.underlying22 (by kernel_rfl) (by kernel_rfl) (opn_int Tryd.underlying2)) hsz (j := 1) (t := 22) rfl rfl h1
  obtain ⟨A1, c1, he1, hl1, hC1⟩ := hK1
  simp [Value.cells] at he1
  obtain ⟨rfl, rfl, rfl⟩ := he1
  obtain ⟨a2, rfl, rfl, rfl, w2⟩ := open_int Tryd.underlying3 (hval 2 3 v2 rfl rfl) h2
  obtain ⟨a3, rfl, rfl, rfl, w3⟩ := open_int Tryd.underlying3 (hval 3 3 v3 rfl rfl) h3
  clear hA0 hval0 hsz0 hsz
  obtain ⟨k, h⟩ := Pure.SplitLaid x0 x1 a2 a3 w0 w1 w2 w3
  refine (swagelaw21_SplitLaid.calls k a0 cap0 x0 a1 cap1 x1 a2 a3 true W hC0 hl0 hC1 hl1 (⟨rfl⟩) h).mono fun e W' he_ => ?_
  obtain ⟨rfl, bel⟩ := he_
  exact ⟨_, rfl, _, _, _, [], _, [], hW', trodAll_mk1 (shut_bool Tryd.underlying4 _), (trodAll_cons_mk (Below.trod laidOut (by kernel_rfl) (of_decide_eq_true (by kernel_rfl)) h0 bel lt0) (trodAll_cons_mk (Below.trod laidOut (by kernel_rfl) (of_decide_eq_true (by kernel_rfl)) h1 bel lt1) (trodAll_cons_mk (shut_int Tryd.underlying3 w2) (trodAll_cons_mk (shut_int Tryd.underlying3 w3) trodAll_mk0)))), rfl, bel.frame _, fun h => by cases h⟩
/-- The cells of a datum that is whole numbers and structs of them. -/
def flat : Nat → DataW Unit → List Value
  | 0, _ => []
  | _ + 1, .lit (.int k n) => [.int k n]
  | m + 1, .agg l => (l.map (flat m)).flatten
  | _ + 1, _ => []
/-- A world for the witness: the settled one, the listed variables holding what they hold. -/
noncomputable def laidWorld (os : Os) : World :=
  { World.holding Tryd.prog os ⟨#[], #[], []⟩ with heap := (((World.holding Tryd.prog os ⟨#[], #[], []⟩).heap.modify ((Tryd.prog.globalNamed "unicode/utf8.acceptRanges").getD 0) fun
      | .cells _ t frozen => .cells (flat 5 Rows.laid_unicode_utf8_acceptRanges).toArray t frozen
      | o => o).modify ((Tryd.prog.globalNamed "unicode/utf8.first").getD 0) fun
      | .cells _ t frozen => .cells (flat 5 Rows.laid_unicode_utf8_first).toArray t frozen
      | o => o) }
theorem laid_met (os : Os) : laidMet Tryd.prog Rows.splitLaidRow.laid ((laidWorld os).forCall (fun _ _ => 0) ⟨#[], #[.slice none 0 0, .slice none 0 0, .int .i64 0, .int .i64 0], []⟩).memory :=
  laidMet_of_run' 8 (by kernel_rfl) (by kernel_rfl)
theorem reads (os : Os) {H : Type} (enc : TypeId × Value → H) : ∃ places, DataW.whole enc Tryd.prog ((laidWorld os).forCall (fun _ _ => 0) ⟨#[], #[.slice none 0 0, .slice none 0 0, .int .i64 0, .int .i64 0], []⟩).memory Tryd.f9.params.toList Rows.splitLaidSpec.vars false (#[.slice none 0 0, .slice none 0 0, .int .i64 0, .int .i64 0] : Array Value).toList 8 = some ([.nil, .nil, .lit (.int .i64 0), .lit (.int .i64 0)], [], places) :=
  ⟨[], by kernel_rfl⟩
set_option maxRecDepth 100000 in
theorem lifted (os : Os) (started : os.Started) (H : Type) (enc : TypeId × Value → H) (F : Stop.Interp) :
    ReturnsInHanded {} Tryd.checked os 9 .any ((OpenSpec.ofChange Rows.splitLaidSpec).preRow enc Tryd.prog Tryd.f9 Rows.splitLaidRow.domain false Rows.splitLaidRow.laid) (((OpenSpec.ofChange Rows.splitLaidSpec).at F).post enc Tryd.prog Tryd.f9 false true false false) := by
  obtain ⟨places, hx⟩ := reads os enc
  refine returnsInHanded_of_row (C := Tryd.checked) (s := OpenSpec.ofChange Rows.splitLaidSpec) own started (by kernel_rfl) Tryd.func9
    (witness_row_at (enc := enc) (C := Tryd.checked) false (laidWorld os) #[.slice none 0 0, .slice none 0 0, .int .i64 0, .int .i64 0] rfl (by kernel_rfl) (by kernel_rfl) (by kernel_rfl)
      (OpenSpec.preRow_of_cond 8 hx (by kernel_rfl) (fun k hk => by cases hk) (by kernel_rfl) (laid_met os))) ?_
  intro W base args ds gs before hval hW _ _ hsz _ _ _
  exact contract H enc W base args ds gs before hval hW hsz
theorem said : Rows.SplitLaidSaid :=
  OpenClaim.holds_of_cond 9 Tryd.f9 rfl rfl rfl rfl rfl rfl rfl ⟨rfl, rfl, rfl, rfl, rfl⟩ rfl rfl rfl rfl rfl (by kernel_rfl) Tryd.func9 (by kernel_rfl)
    (of_decide_eq_true (by kernel_rfl)) (by unfold Func.isWrapper; first | (rw [if_pos (by decide +kernel)]; kernel_rfl) | (rw [if_neg (by decide +kernel)]; exact ⟨rfl, rfl⟩))
    (fun os started H enc _ F => by rw [OpenClaim.pre_eq_preRow]; exact lifted os started H enc F)
theorem plain (f : FuncId) (fn : Func) (hf : Tryd.pinned.checked.prog.funcNamed "swage/swagelaw21.SplitLaid" = some f) (hfn : Tryd.pinned.checked.prog.funcs[f]? = some fn) :
    false = Tryd.pinned.checked.prog.looks [] ∧ ∀ (j : Nat) t, fn.params[j]? = some t → Tryd.pinned.checked.prog.wantsStandIn t = false := by
  obtain rfl : f = 9 := Option.some.inj ((show Tryd.prog.funcNamed "swage/swagelaw21.SplitLaid" = some 9 by kernel_rfl).symm.trans hf) |>.symm
  obtain rfl : fn = Tryd.f9 := (Option.some.inj (Tryd.func9.symm.trans hfn)).symm
  refine ⟨by kernel_rfl, fun j t ht => ?_⟩
  rw [Tryd.params9] at ht
  have hm := Array.mem_of_getElem? ht
  have hall : (([22, 22, 3, 3] : List Nat).all fun t => !Tryd.prog.wantsStandIn t) = true := by kernel_rfl
  have := List.all_eq_true.1 hall t (by simpa using hm)
  exact (by simpa using this : Tryd.prog.wantsStandIn t = false)
theorem card : Rows.SplitLaidCardSaid :=
  Claim7.holds_tied_plain_at .later [] _ _ _ _ said (fun _ h => by cases h) (by kernel_rfl) (fun _ h => by cases h) splitLaid_row_tie rfl ⟨rfl, rfl⟩ (by kernel_rfl) rfl plain (by kernel_rfl)
#print axioms card
end Go.Proofs.YtakmkhokbcjapaaDoor.splitLaid
namespace Go.Proofs.YtakmkhokbcjapaaDoor
/-- The card, under a short name, for the claim. -/
theorem splitLaid_holds : Rows.SplitLaidCardSaid := splitLaid.card
end Go.Proofs.YtakmkhokbcjapaaDoor
end
