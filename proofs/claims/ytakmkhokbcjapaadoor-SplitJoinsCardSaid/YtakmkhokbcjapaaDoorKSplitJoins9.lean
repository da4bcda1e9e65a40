/- Part 9 of the proof of the law SplitJoins for every input: words, walks and plain laws. No condition. -/
import Derived.Test.YtakmkhokbcjapaaDoorKSplitJoins8
set_option linter.unusedVariables false
set_option linter.unusedSimpArgs false
set_option maxHeartbeats 8000000
set_option maxRecDepth 100000
section
namespace Go.Proofs.YtakmkhokbcjapaaDoor.XA
open Go.Proofs.YtakmkhokbcjapaaDoor.Lift Go.RowKit Go.Proofs.YtakmkhokbcjapaaDoorW.PrintWords Go.Proofs.YtakmkhokbcjapaaDoorW.PrintLast Go.Proofs.YtakmkhokbcjapaaDoorW.PrintMore
attribute [local go_sem] max2_int min2_int max_two min_two max_three min_three max_four min_four
mutual
def split_Join.j0 : Nat → List (List (S39)) → Int → Int → Bool → Option ((List (S39)) × Int)
 | 0, _, _, _, _ => none
 | k + 1, x0, x1, x2, x29 => if x29 = true then (some (([] : List (S39)), 2)) else (if (x0.length : Int) > 15 then (some (([] : List (S39)), 3)) else (split_Join.l0 k x0 x1 x2 x2 x0 (x0.length : Int) 0))
def split_Join.l0 : Nat → List (List (S39)) → Int → Int → Int → List (List (S39)) → Int → Int → Option ((List (S39)) × Int)
 | 0, _, _, _, _, _, _, _ => none
 | k + 1, x0, x1, x2, x8, x34, x35, x36 => if x36 < x35 then (if 0 ≤ x36 then (if x36 < (x34.length : Int) then (if ((rd_L5 x34 x36).length : Int) > 8192 then (some (([] : List (S39)), 3)) else (split_Join.l0 k x0 x1 x2 (mx x8 (wrap64 ((wrap64 (x36 * x1)) + ((rd_L5 x34 x36).length : Int)))) x34 x35 (wrap64 (x36 + 1)))) else (none)) else (none)) else (if 0 ≤ x8 then (if (x8 : Int).toNat ≤ 8796093022208 then (split_Join.l1 k x1 x2 (List.replicate (x8 : Int).toNat z39) x0 (x0.length : Int) 0) else (none)) else (none))
def split_Join.l1 : Nat → Int → Int → List (S39) → List (List (S39)) → Int → Int → Option ((List (S39)) × Int)
 | 0, _, _, _, _, _, _ => none
 | k + 1, x1, x2, x11, x55, x56, x57 => if x57 < x56 then (if 0 ≤ x57 then (if x57 < (x55.length : Int) then (split_Join.l2 k x1 x2 x11 x57 x55 x56 x57 (rd_L5 x55 x57) ((rd_L5 x55 x57).length : Int) 0) else (none)) else (none)) else ((poly_Degree.f k x11).bind fun qM => (if qM ≥ x2 then (some (([] : List (S39)), 5)) else (if x2 = 0 then (some (([] : List (S39)), 0)) else (if 0 ≤ x2 then (if x2 ≤ (x11.length : Int) then (some ((x11.take (x2 : Int).toNat), 0)) else (none)) else (none)))))
def split_Join.l2 : Nat → Int → Int → List (S39) → Int → List (List (S39)) → Int → Int → List (S39) → Int → Int → Option ((List (S39)) × Int)
 | 0, _, _, _, _, _, _, _, _, _, _ => none
 | k + 1, x1, x2, x11, x12, x55, x56, x57, x62, x63, x64 => if x64 < x63 then (if 0 ≤ x64 then (if x64 < (x62.length : Int) then (if 0 ≤ (wrap64 ((wrap64 (x12 * x1)) + x64)) then (if (wrap64 ((wrap64 (x12 * x1)) + x64)) < (x11.length : Int) then ((integer_Int_Add.f k ((rd_T39 x11 (wrap64 ((wrap64 (x12 * x1)) + x64))).f0) ((rd_T39 x11 (wrap64 ((wrap64 (x12 * x1)) + x64))).f1) ((rd_T39 x62 x64).f0) ((rd_T39 x62 x64).f1)).bind fun bt364 => (split_Join.l2 k x1 x2 (x11.set ((wrap64 ((wrap64 (x12 * x1)) + x64)) : Int).toNat (⟨bt364.1, bt364.2⟩ : S39)) x12 x55 x56 x57 x62 x63 (wrap64 (x64 + 1)))) else (none)) else (none)) else (none)) else (none)) else (split_Join.l1 k x1 x2 x11 x55 x56 (wrap64 (x57 + 1)))
end
def split_Join.f (k : Nat) (l0 : List (List (S39))) (a1 : Int) (a2 : Int) : Option ((List (S39)) × Int) := if a1 < 1 then (split_Join.j0 k l0 a1 a2 true) else (if a1 > 4096 then (split_Join.j0 k l0 a1 a2 true) else (if a2 < 0 then (split_Join.j0 k l0 a1 a2 true) else (split_Join.j0 k l0 a1 a2 (decide (a2 > 8192)))))
theorem split_Join.mono_l : ∀ k, (∀ y0 y1 y2 y3, LeO (split_Join.j0 k y0 y1 y2 y3) (split_Join.j0 (k + 1) y0 y1 y2 y3)) ∧ (∀ y0 y1 y2 y3 y4 y5 y6, LeO (split_Join.l0 k y0 y1 y2 y3 y4 y5 y6) (split_Join.l0 (k + 1) y0 y1 y2 y3 y4 y5 y6)) ∧ (∀ y0 y1 y2 y3 y4 y5, LeO (split_Join.l1 k y0 y1 y2 y3 y4 y5) (split_Join.l1 (k + 1) y0 y1 y2 y3 y4 y5)) ∧ (∀ y0 y1 y2 y3 y4 y5 y6 y7 y8 y9, LeO (split_Join.l2 k y0 y1 y2 y3 y4 y5 y6 y7 y8 y9) (split_Join.l2 (k + 1) y0 y1 y2 y3 y4 y5 y6 y7 y8 y9))
 | 0 => ⟨fun _ _ _ _ r h => by simp [split_Join.j0] at h, fun _ _ _ _ _ _ _ r h => by simp [split_Join.l0] at h, fun _ _ _ _ _ _ r h => by simp [split_Join.l1] at h, fun _ _ _ _ _ _ _ _ _ _ r h => by simp [split_Join.l2] at h⟩
 | k + 1 => by
  obtain ⟨ih0, ih1, ih2, ih3⟩ := split_Join.mono_l k
  refine ⟨?_, ?_, ?_, ?_⟩
  ·intro y0 y1 y2 y3
   unfold split_Join.j0
   have im0 := @integer_Int_Add.mono; have im1 := @poly_Degree.mono; exact zM
  ·intro y0 y1 y2 y3 y4 y5 y6
   unfold split_Join.l0
   have im0 := @integer_Int_Add.mono; have im1 := @poly_Degree.mono; exact zM
  ·intro y0 y1 y2 y3 y4 y5
   unfold split_Join.l1
   have im0 := @integer_Int_Add.mono; have im1 := @poly_Degree.mono; exact zM
  ·intro y0 y1 y2 y3 y4 y5 y6 y7 y8 y9
   unfold split_Join.l2
   have im0 := @integer_Int_Add.mono; have im1 := @poly_Degree.mono; exact zM
theorem split_Join.mono : ∀ a0 a1 a2 k, LeO (split_Join.f k a0 a1 a2) (split_Join.f (k + 1) a0 a1 a2) := by
 intro a0 a1 a2 k
 obtain ⟨ih0, ih1, ih2, ih3⟩ := split_Join.mono_l k
 unfold split_Join.f
 have im0 := @integer_Int_Add.mono; have im1 := @poly_Degree.mono; exact zM
def split_Join.T20 : Bool × List (List Nat × List Nat) := (true, [([], []), ([], []), ([], []), ([1, 2], [1, 2]), ([], []), ([3, 4], [3, 4]), ([], []), ([], []), ([], []), ([7, 8], [7, 8]), ([], []), ([9, 10], [9, 10]), ([6, 11], [6, 11]), ([12], [12]), ([], []), ([13, 14], [13, 14]), ([0, 5, 0, 1, 2, 3, 4, 5, 6, 7, 8, 9, 10, 11, 12, 13, 14, 15], [0, 5]), ([16, 15, 15, 0, 1, 2, 3, 4, 5, 6, 7, 8, 9, 10, 11, 12, 13, 14, 15], [15, 16])])
def split_Join.B20 : List Nat := [0, 0, 0, 6, 0, 30, 0, 0, 0, 384, 0, 1920, 4032, 8128, 0, 32704, 65535, 131071]
theorem split_Join.tab20 : rtab .any (opsOf Tryd.f18 20) = split_Join.T20 := by kernel_rfl
theorem split_Join.bits20 : waitsOk split_Join.T20.2 split_Join.B20 = true := by kernel_rfl
theorem split_Join.calls (k : Nat) (A0 : Option Addr) (c0 : Nat) (l0 : List (List (S39))) (a1 : Int) (a2 : Int) (r1 : List (S39)) (r2 : Int) (w : World) (hr0 : Kd.C (Kd.slice 39 k39) w A0 l0.length l0) (hc0 : l0.length ≤ c0) (h : split_Join.f k l0 a1 a2 = some (r1, r2)) :
  Calls Tryd.prog 18 #[.slice A0 l0.length c0, .int .i64 a1, .int .i64 a2] w fun e w' => ∃ v0_ : Value, e = .returned (.tuple #[v0_, .int .i64 r2]) ∧ Kd.V k39 39 w' w.heap.size (fun k_ => (w.heap.size ≤ k_)) v0_ r1 ∧ Below w.heap.size w w' := by
 have hu39 := Tryd.underlying39
 have HR0 := aM hr0
 have HC0 := aM hc0
 clear hr0 hc0
 have HB := aM (Below.refl w.heap.size w)
 have H : (if a1 < 1 then (split_Join.j0 k l0 a1 a2 true) else (if a1 > 4096 then (split_Join.j0 k l0 a1 a2 true) else (if a2 < 0 then (split_Join.j0 k l0 a1 a2 true) else (split_Join.j0 k l0 a1 a2 (decide (a2 > 8192)))))) = some (r1, r2) := h
 clear h
 have HC4 := aM H
 clear H
 go_enter Tryd.func18, Tryd.ntmps18
 go_upto_region 1 with (fail)
 go_cut [29] (fun v29 wc => ∃ (kq : Nat) (qR : Bool), v29 = .bool qR ∧ Aside0 (split_Join.j0 kq l0 a1 a2 qR = some (r1, r2)) ∧ Aside0 (kq ≤ k) ∧ Aside0 (Below w.heap.size w wc))
 case first =>
  have H := HC4.out
  clear HC4
  by_cases c5 : a1 < 1
  ·rw [if_pos c5] at H
   have c5b0 := decide_eq_true c5
   clear c5
   (first | rw [c5b0] | (simp only [i64_w, i32_w]; rw [c5b0]) | skip)
   have H' := aM H
   clear H
   go_wp2
   go_meet
   case rel => exact ⟨_, (true), zT, H', ⟨zO⟩, ⟨zB HB⟩⟩
  ·rw [if_neg c5] at H
   have c5b0 := decide_eq_false c5
   clear c5
   (first | rw [c5b0] | (simp only [i64_w, i32_w]; rw [c5b0]) | skip)
   by_cases c6 : a1 > 4096
   ·rw [if_pos c6] at H
    have c6b0 := decide_eq_true c6
    clear c6
    have H' := aM H
    clear H
    go_wp2
    go_meet
    case rel => exact ⟨_, (true), zT, H', ⟨zO⟩, ⟨zB HB⟩⟩
   ·rw [if_neg c6] at H
    have c6b0 := decide_eq_false c6
    clear c6
    by_cases c7 : a2 < 0
    ·rw [if_pos c7] at H
     have c7b0 := decide_eq_true c7
     clear c7
     have H' := aM H
     clear H
     go_wp2
     go_meet
     case rel => exact ⟨_, (true), zT, H', ⟨zO⟩, ⟨zB HB⟩⟩
    ·rw [if_neg c7] at H
     have c7b0 := decide_eq_false c7
     clear c7
     have H' := aM H
     clear H
     go_wp2
     go_meet
     case rel => exact ⟨_, (decide (a2 > 8192)), (by first | rfl | (simp; done) | (simp [*]; done) | (simp; omega)), H', ⟨zO⟩, ⟨zB HB⟩⟩
 case rest =>
  clear HC4
  obtain ⟨kq, qR, rfl, HA, HJ3, HB⟩ := hcut
  cases kq with
  | zero => exact absurd HA.out (by simp [split_Join.j0])
  | succ kj3 =>
   have H := HA.out
   clear HA
   simp only [split_Join.j0] at H
   by_cases c8 : qR = true
   ·subst c8
    have H1 : (some (([] : List (S39)), 2)) = some (r1, r2) := by rw [if_pos rfl] at H; exact H
    clear H
    have H := H1
    clear H1
    simp only [Option.some.injEq, Prod.mk.injEq] at H
    obtain ⟨rfl, rfl⟩ := H
    go_wp2
    go_ret2
    exact ⟨_, zE, Kd.V_nil _ _ _ _ _, zB HB⟩
   ·replace c8 := Bool.eq_false_iff.mpr c8
    subst c8
    have H1 : (if (l0.length : Int) > 15 then (some (([] : List (S39)), 3)) else (split_Join.l0 kj3 l0 a1 a2 a2 l0 (l0.length : Int) 0)) = some (r1, r2) := by rw [if_neg (show ¬ (false = true) by decide)] at H; exact H
    clear H
    have H := H1
    clear H1
    by_cases c9 : (l0.length : Int) > 15
    ·rw [if_pos c9] at H
     have c9b0 := decide_eq_true c9
     have c9b1 : decide (15 < l0.length) = true := decide_eq_true (by omega)
     clear c9
     simp only [Option.some.injEq, Prod.mk.injEq] at H
     obtain ⟨rfl, rfl⟩ := H
     go_wp2
     go_ret2
     exact ⟨_, zE, Kd.V_nil _ _ _ _ _, zB HB⟩
    ·rw [if_neg c9] at H
     have c9b0 := decide_eq_false c9
     have c9b1 : decide (15 < l0.length) = false := decide_eq_false (by omega)
     clear c9
     have H' := aM H
     clear H
     go_wp2
     go_loopg [8, 36] kj3 (fun kq v8 v36 w' => ∃ (qL : Int) (qF : Int), v8 = .int .i64 qL ∧ v36 = .int .i64 qF ∧ Aside0 (split_Join.l0 kq l0 a1 a2 qL l0 (l0.length : Int) qF = some (r1, r2)) ∧ Aside0 (kq ≤ kj3) ∧ Aside0 (Below w.heap.size w w'))
     case atStart => exact ⟨(a2), (0), zT, zT, H', ⟨Nat.le_refl _⟩, ⟨zB HB⟩⟩
     case round =>
      clear H'
      try clear c8
      try clear c9
      obtain ⟨qL, qF, rfl, rfl, HA, HK2, HB⟩ := hrel
      cases gk with
      | zero => exact absurd HA.out (by simp [split_Join.l0])
      | succ k2 =>
       have H := HA.out
       clear HA
       simp only [split_Join.l0] at H
       by_cases c10 : qF < (l0.length : Int)
       ·rw [if_pos c10] at H
        have c10b0 := decide_eq_true c10
        clear c10
        by_cases c11 : 0 ≤ qF
        ·rw [if_pos c11] at H
         have c11b0 := decide_eq_true c11
         clear c11
         by_cases c12 : qF < (l0.length : Int)
         ·rw [if_pos c12] at H
          have c12b0 := decide_eq_true c12
          clear c12
          by_cases c13 : ((rd_L5 l0 qF).length : Int) > 8192
          ·rw [if_pos c13] at H
           have c13b0 := decide_eq_true c13
           have c13b1 : decide (8192 < (rd_L5 l0 qF).length) = true := decide_eq_true (by omega)
           clear c13
           simp only [Option.some.injEq, Prod.mk.injEq] at H
           obtain ⟨rfl, rfl⟩ := H
           have p356 : 0 ≤ (qF : Int) := of_decide_eq_true za
           have q356 : qF < (l0.length : Int) := of_decide_eq_true za
           obtain ⟨ad356, qc, qd, e356, hx356_0, hl356_0, hi356_0⟩ := at_L5 HR0.out qF p356 q356
           cases e356
           replace hx356_0 := (HB.out.cell (World.block_lt_of_cell? w _ hx356_0)).trans hx356_0
           have qW := aM hi356_0
           have qX := aM hl356_0
           clear hi356_0 hl356_0
           replace p356 := eq_true p356
           replace q356 := eq_true q356
           go_wp2
           go_ret2
           exact ⟨_, zE, Kd.V_nil _ _ _ _ _, zB HB⟩
          ·rw [if_neg c13] at H
           have c13b0 := decide_eq_false c13
           have c13b1 : decide (8192 < (rd_L5 l0 qF).length) = false := decide_eq_false (by omega)
           clear c13
           obtain ⟨ji14, hji14⟩ : ∃ j_ : Int, (mx qL (wrap64 ((wrap64 (qF * a1)) + ((rd_L5 l0 qF).length : Int)))) = j_ := ⟨_, rfl⟩
           replace H : (split_Join.l0 k2 l0 a1 a2 ji14 l0 (l0.length : Int) (wrap64 (qF + 1))) = some (r1, r2) := by first | (rw [hji14] at H; exact H) | (simp only [hji14] at H ⊢; exact H)
           have hji14_ : (if qL < (wrap64 ((wrap64 (qF * a1)) + ((rd_L5 l0 qF).length : Int))) then (wrap64 ((wrap64 (qF * a1)) + ((rd_L5 l0 qF).length : Int))) else qL) = ji14 := hji14
           have H' := aM H
           clear H
           have p356 : 0 ≤ (qF : Int) := of_decide_eq_true za
           have q356 : qF < (l0.length : Int) := of_decide_eq_true za
           obtain ⟨ad356, qc, qd, e356, hx356_0, hl356_0, hi356_0⟩ := at_L5 HR0.out qF p356 q356
           cases e356
           replace hx356_0 := (HB.out.cell (World.block_lt_of_cell? w _ hx356_0)).trans hx356_0
           have qW := aM hi356_0
           have qX := aM hl356_0
           clear hi356_0 hl356_0
           replace p356 := eq_true p356
           replace q356 := eq_true q356
           go_wp2
           go_roundg k2
           case measure => have := HJ3.out; have := HK2.out; omega
           case rel => exact ⟨(ji14), (wrap64 (qF + 1)), (by first | rfl | (simp; done) | (simp only [← hji14] <;> (first | rfl | simp)) | (simp [*]; done)), zT, H', ⟨by have := HJ3.out; have := HK2.out; omega⟩, ⟨zB HB⟩⟩
         ·rw [if_neg c12] at H
          exact absurd H (by simp)
        ·rw [if_neg c11] at H
         exact absurd H (by simp)
       ·rw [if_neg c10] at H
        have c10b0 := decide_eq_false c10
        clear c10
        by_cases c15 : 0 ≤ qL
        ·rw [if_pos c15] at H
         have c15b0 := eq_true c15
         have c15b1 := decide_eq_true c15
         clear c15
         by_cases c16 : (qL : Int).toNat ≤ 8796093022208
         ·rw [if_pos c16] at H
          have c16b0 := eq_true c16
          have c16b1 := decide_eq_true c16
          clear c16
          obtain ⟨y357, hy357⟩ : ∃ y_ : List (S39), y_ = (List.replicate (qL : Int).toNat z39) := ⟨_, rfl⟩
          replace H : (split_Join.l1 k2 a1 a2 y357 l0 (l0.length : Int) 0) = some (r1, r2) := zH hy357 H
          have Ny357 := aM hy357
          clear hy357
          have H' := aM H
          clear H
          go_wp2_with (first | ((with_reducible refine gate_dst (N := 54) rfl ?_); refine Kd.N_make k39 _ 39 rfl (N' := 54) rfl 24 _ _ rfl qL rfl rfl Tryd.underlying24 (.agg #[(.bool false), (.slice none 0 0)]) 32 info39 rfl (by decide) (by omega) z39 (ok := fun k_ => wr.heap.size ≤ k_) (okp := fun _ => False) (k39_mkF _ _ z39 (Nat.le_refl _) (Kd.F_nil _ _ _)) (fun _ hk => hk.elim) (Nat.le_refl _) (of_decide_eq_true za) (Nat.le_trans (Nat.mul_le_mul_right _ (of_decide_eq_true za : qL.toNat ≤ 8796093022208)) (by omega)) (Below.refl _ _) (Nat.le_refl _) ?_; intro v358 w17 ho18 hb hg_ hnew_; clear hg_ hnew_; (first | rw [← Ny357.out] at ho18 | (simp only [Int.reduceToNat] at ho18; rw [← Ny357.out] at ho18)); have qg := aM (Kd.N_lower (Kd.N_mono (ok' := fun k_ => (w.heap.size ≤ k_)) ho18 (fun k_ hk_ => (Nat.le_trans (z4_ (lB HB)) hk_))) (z4_ (lB HB))); replace HB := aM (z6_ (lB HB) hb); clear hb ho18))
          go_loopg [57] k2 (fun kq v57 w' => ∃ (qG : List (S39)) (qA : Int), v57 = .int .i64 qA ∧ Aside0 (split_Join.l1 kq a1 a2 qG l0 (l0.length : Int) qA = some (r1, r2)) ∧ Aside0 (kq ≤ k2) ∧ Aside0 (Kd.N k39 39 w' w.heap.size (fun k_ => (w.heap.size ≤ k_)) v358 qG) ∧ Aside0 (Below w.heap.size w w'))
          case atStart => exact ⟨(y357), (0), zT, H', ⟨Nat.le_refl _⟩, ⟨by (with_reducible repeat (first | apply Kd.N_alloc | apply Kd.N_drewN | apply Kd.N_drew)); exact qg.out⟩, ⟨zB HB⟩⟩
          case round =>
           clear H'
           try clear c8
           try clear c9
           try clear c10
           try clear c15
           try clear c16
           obtain ⟨qG, qA, rfl, HA, HK3, qB, HB⟩ := hrel
           cases gk with
           | zero => exact absurd HA.out (by simp [split_Join.l1])
           | succ k3 =>
            have H := HA.out
            clear HA
            simp only [split_Join.l1] at H
            by_cases c19 : qA < (l0.length : Int)
            ·rw [if_pos c19] at H
             have c19b0 := decide_eq_true c19
             clear c19
             by_cases c20 : 0 ≤ qA
             ·rw [if_pos c20] at H
              have c20b0 := decide_eq_true c20
              clear c20
              by_cases c21 : qA < (l0.length : Int)
              ·rw [if_pos c21] at H
               have c21b0 := decide_eq_true c21
               clear c21
               have H' := aM H
               clear H
               have p360 : 0 ≤ (qA : Int) := of_decide_eq_true za
               have q360 : qA < (l0.length : Int) := of_decide_eq_true za
               obtain ⟨ad360, qr, qs, e360, hx360_0, hl360_0, hi360_0⟩ := at_L5 HR0.out qA p360 q360
               cases e360
               replace hx360_0 := (HB.out.cell (World.block_lt_of_cell? w _ hx360_0)).trans hx360_0
               have qY := aM hi360_0
               have qo := aM hl360_0
               clear hi360_0 hl360_0
               replace p360 := eq_true p360
               replace q360 := eq_true q360
               go_wp2
               go_loopg [64] k3 (fun kq v64 w' => ∃ (qD : List (S39)) (qC : Int), v64 = .int .i64 qC ∧ Aside0 (split_Join.l2 kq a1 a2 qD qA l0 (l0.length : Int) qA (rd_L5 l0 qA) ((rd_L5 l0 qA).length : Int) qC = some (r1, r2)) ∧ Aside0 (kq ≤ k3) ∧ Aside0 (Kd.N k39 39 w' w.heap.size (fun k_ => (w.heap.size ≤ k_)) v358 qD) ∧ Aside0 (Below w.heap.size w w'))
               case atStart => exact ⟨(qG), (0), zT, H', ⟨Nat.le_refl _⟩, ⟨by (with_reducible repeat (first | apply Kd.N_alloc | apply Kd.N_drewN | apply Kd.N_drew)); exact qB.out⟩, ⟨zB HB⟩⟩
               case round =>
                clear H'
                try clear c8
                try clear c9
                try clear c10
                try clear c15
                try clear c16
                try clear c19
                try clear c20
                try clear c21
                obtain ⟨qD, qC, rfl, HA, HK4, qB, HB⟩ := hrel
                cases gk with
                | zero => exact absurd HA.out (by simp [split_Join.l2])
                | succ k4 =>
                 have H := HA.out
                 clear HA
                 simp only [split_Join.l2] at H
                 by_cases c22 : qC < ((rd_L5 l0 qA).length : Int)
                 ·rw [if_pos c22] at H
                  have c22b0 := decide_eq_true c22
                  clear c22
                  by_cases c23 : 0 ≤ qC
                  ·rw [if_pos c23] at H
                   have c23b0 := decide_eq_true c23
                   clear c23
                   by_cases c24 : qC < ((rd_L5 l0 qA).length : Int)
                   ·rw [if_pos c24] at H
                    have c24b0 := decide_eq_true c24
                    clear c24
                    obtain ⟨ji25, hji25⟩ : ∃ j_ : Int, (wrap64 ((wrap64 (qA * a1)) + qC)) = j_ := ⟨_, rfl⟩
                    replace H : (if 0 ≤ (ji25) then (if (ji25) < (qD.length : Int) then ((integer_Int_Add.f k4 ((rd_T39 qD (ji25)).f0) ((rd_T39 qD (ji25)).f1) ((rd_T39 (rd_L5 l0 qA) qC).f0) ((rd_T39 (rd_L5 l0 qA) qC).f1)).bind fun bt364 => (split_Join.l2 k4 a1 a2 (qD.set ((ji25) : Int).toNat (⟨bt364.1, bt364.2⟩ : S39)) qA l0 (l0.length : Int) qA (rd_L5 l0 qA) ((rd_L5 l0 qA).length : Int) (wrap64 (qC + 1)))) else (none)) else (none)) = some (r1, r2) := by first | (rw [hji25] at H; exact H) | (simp only [hji25] at H ⊢; exact H)
                    have hji25w : (IntKind.i64.wrap ((wrap64 (qA * a1)) + qC)) = ji25 := (i64_w _).trans hji25
                    by_cases c26 : 0 ≤ (ji25)
                    ·rw [if_pos c26] at H
                     have c26b0 := decide_eq_true c26
                     clear c26
                     by_cases c27 : (ji25) < (qD.length : Int)
                     ·rw [if_pos c27] at H
                      have c27b0 := decide_eq_true c27
                      clear c27
                      replace H := zbs H
                      obtain ⟨⟨qN, qO⟩, A280, H⟩ := H
                      replace H : (split_Join.l2 k4 a1 a2 (qD.set ((ji25) : Int).toNat (⟨qN, qO⟩ : S39)) qA l0 (l0.length : Int) qA (rd_L5 l0 qA) ((rd_L5 l0 qA).length : Int) (wrap64 (qC + 1))) = some (r1, r2) := H
                      have A28 := aM A280
                      clear A280
                      obtain ⟨y368, hy368⟩ : ∃ y_ : List (S39), y_ = (qD.set ((ji25) : Int).toNat (⟨qN, qO⟩ : S39)) := ⟨_, rfl⟩
                      replace H : (split_Join.l2 k4 a1 a2 y368 qA l0 (l0.length : Int) qA (rd_L5 l0 qA) ((rd_L5 l0 qA).length : Int) (wrap64 (qC + 1))) = some (r1, r2) := zH hy368 H
                      have Ny368 := aM hy368
                      clear hy368
                      have H' := aM H
                      clear H
                      have p361 : 0 ≤ (qC : Int) := of_decide_eq_true za
                      have q361 : qC < ((rd_L5 l0 qA).length : Int) := of_decide_eq_true za
                      obtain ⟨ad361, qI, qJ, e361, hx361_0, hx361_1, hl361_1, hi361_1⟩ := at_T39 qY.out qC p361 q361
                      cases e361
                      replace hx361_0 := (HB.out.cell (World.block_lt_of_cell? w _ hx361_0)).trans hx361_0
                      replace hx361_1 := (HB.out.cell (World.block_lt_of_cell? w _ hx361_1)).trans hx361_1
                      have qZ := aM hi361_1
                      have qa := aM hl361_1
                      clear hi361_1 hl361_1
                      replace p361 := eq_true p361
                      replace q361 := eq_true q361
                      try go_wp2_with (first | ((with_reducible refine gate_dst (N := 15) rfl ?_); refine z16_ rfl (N := 15) rfl (cs := #[.bool false, .slice none 0 0]) (t := 39) zG ?_; intro qE hg w30 hbox hb; replace qB := aM (Kd.N_below (Kd.N_elderB (lN qB) qE (Nat.le_of_eq hg.symm)) hb); have qH := aM (hbox); have qt := aM ((by rw [hg]; exact (z4_ (lB HB)) : w.heap.size ≤ qE)); have qu := aM ((by rw [hg]; exact (z4_ (lB HB)) : w.heap.size ≤ qE)); replace HB := aM (z6_ (lB HB) hb); clear hb hbox hg; have qp := zc2 qH.out; have qq := fun i_ : Nat => z1_ qH.out i_))
                      have n0_ : Aside0 (Kd.N k39 39 ((w30.setCell ⟨qE, 0, none⟩ (.bool ((rd_T39 (rd_L5 l0 qA) qC).f0))).setCell ⟨qE, 1, none⟩ (.slice qI ((rd_T39 (rd_L5 l0 qA) qC).f1).length qJ)) w.heap.size (fun k_ => (w.heap.size ≤ k_) ∧ k_ ≠ qE) v358 qD) := ⟨by (with_reducible repeat (first | apply Kd.N_alloc | apply Kd.N_drewN | apply Kd.N_drew)); exact Kd.N_mono (Kd.N_far (p := ⟨qE, 1, none⟩) (Kd.N_far (p := ⟨qE, 0, none⟩) (Kd.N_mono qB.out (fun k_ hk => (⟨hk, hk.2⟩ : _ ∧ k_ ≠ qE))) (fun _ hk => hk.2) (.bool ((rd_T39 (rd_L5 l0 qA) qC).f0))) (fun _ hk => hk.2) (.slice qI ((rd_T39 (rd_L5 l0 qA) qC).f1).length qJ)) (fun _ hk => ⟨hk.1.1, hk.1.2⟩)⟩
                      have n1_ : Aside0 (((w30.setCell ⟨qE, 0, none⟩ (.bool ((rd_T39 (rd_L5 l0 qA) qC).f0))).setCell ⟨qE, 1, none⟩ (.slice qI ((rd_T39 (rd_L5 l0 qA) qC).f1).length qJ)).heap[qE]? = some (.cells #[.bool ((rd_T39 (rd_L5 l0 qA) qC).f0), .slice qI ((rd_T39 (rd_L5 l0 qA) qC).f1).length qJ] 39 (0, 0))) := ⟨by refine lZ ?_; refine blk_put (cs := #[.bool ((rd_T39 (rd_L5 l0 qA) qC).f0), .slice none 0 0]) ?_ 1 _ rfl; refine lZ ?_; refine blk_put (cs := #[.bool false, .slice none 0 0]) ?_ 0 _ rfl; refine lZ ?_; exact qH.out⟩
                      have n2_ : Aside0 (Below w.heap.size w ((w30.setCell ⟨qE, 0, none⟩ (.bool ((rd_T39 (rd_L5 l0 qA) qC).f0))).setCell ⟨qE, 1, none⟩ (.slice qI ((rd_T39 (rd_L5 l0 qA) qC).f1).length qJ))) := ⟨zB HB⟩
                      (try clear qB)
                      (try clear qH)
                      (try clear HB)
                      generalize ((w30.setCell ⟨qE, 0, none⟩ (.bool ((rd_T39 (rd_L5 l0 qA) qC).f0))).setCell ⟨qE, 1, none⟩ (.slice qI ((rd_T39 (rd_L5 l0 qA) qC).f1).length qJ)) = w32 at n0_ n1_ n2_ ⊢
                      have qB := n0_
                      have qH := n1_
                      have HB := n2_
                      clear n0_ n1_ n2_
                      replace qB := aM (Kd.N_drew qB.out)
                      replace qH := aM (blk_drew qH.out)
                      replace HB := aM (below_drew1 HB.out)
                      obtain ⟨qw, qe, eo34⟩ := Kd.N_slice qB.out
                      (first | subst eo34 | (injection eo34 with f1_ f2_ f3_; have f4_ := f1_.symm; have f5_ := f3_.symm; clear f1_ f2_ f3_; subst f4_; subst f5_))
                      have p363 : 0 ≤ ((ji25) : Int) := of_decide_eq_true za
                      have q363 : (ji25) < (qD.length : Int) := of_decide_eq_true za
                      obtain ⟨ad363, qU, qV, e363, hx363_0, hx363_1, hl363_1, hi363_1⟩ := at_T39 (Kd.N_reads' qB.out).2.2 (ji25) p363 q363
                      cases e363
                      obtain ⟨ce363, hce363, hMe363, hcc363⟩ := Kd.N_get qB.out z39 (ji25) p363 (by first | exact q363 | exact of_decide_eq_true za | (have e_ := (Kd.N_reads' qB.out).1; omega))
                      obtain ⟨ua363_1, uc363_1, rfl, ul363_1, ge363_1⟩ := k39_openF hMe363
                      have hv363_1 := hcc363 1 _ rfl
                      rw [add_field _ _ 1 (by omega)] at hv363_1
                      replace hv363_1 := Option.some.inj (hv363_1.symm.trans hx363_1)
                      injection hv363_1 with hva_ hvn_ hvc_
                      rw [hva_] at ge363_1
                      rw [hvc_] at ul363_1
                      have qP := aM (show Kd.V (Kd.int .u32) 76 _ w.heap.size _ _ ((rd_T39 qD (ji25)).f1) from Kd.V_mk ul363_1 ge363_1)
                      clear hva_ hvn_ hvc_ ge363_1 ul363_1
                      clear hcc363 hce363
                      have qK := aM hi363_1
                      have qb := aM hl363_1
                      clear hi363_1 hl363_1
                      replace p363 := eq_true p363
                      replace q363 := eq_true q363
                      refine start_ (n := 18) (S := fun w' => w'.cell? ⟨qE, 0, none⟩ = some (.bool ((rd_T39 (rd_L5 l0 qA) qC).f0)) ∧ w'.cell? ⟨qE, 1, none⟩ = some (.slice qI ((rd_T39 (rd_L5 l0 qA) qC).f1).length qJ) ∧ w'.cell? (ad363.add (((ji25)).toNat * 2)) = some (.bool ((rd_T39 qD (ji25)).f0)) ∧ w'.cell? ⟨(ad363.add (((ji25)).toNat * 2)).block, (ad363.add (((ji25)).toNat * 2)).off + 1, none⟩ = some (.slice qU ((rd_T39 qD (ji25)).f1).length qV)) (ds := [17]) (bs 18 0) zk rfl rfl ⟨(z2_ qH.out 0).trans rfl, (z2_ qH.out 1).trans rfl, hx363_0, hx363_1⟩ (fun hHeld => ?_); refine with_tabW split_Join.tab20 split_Join.bits20 (fun HT_ HW_ => ?_)
                      generalize w32.drew = w33 at qB qH HB qP qK hx363_0 hx363_1 hHeld ⊢
                      refine pQ 0 69 18 1 ?_
                      refine pQ 1 70 18 3 ?_
                      refine pQ 2 71 18 7 ?_
                      refine pQ 3 72 18 15 ?_
                      refine pQ 4 73 18 31 ?_
                      refine pQ 5 74 18 63 ?_
                      refine pQ 6 75 18 127 ?_
                      refine pQ 7 76 18 255 ?_
                      refine pQ 8 77 18 511 ?_
                      refine pQ 9 78 18 1023 ?_
                      refine pQ 10 79 18 2047 ?_
                      refine pQ 11 80 18 4095 ?_
                      refine pQ 12 81 18 8191 ?_
                      refine take_ (i := 13) (N := some 82) (v := ?_) (a' := ?_) (bs 18 16383) rfl rfl (take_ofW HT_.out HW_.out zk) (fun _ _ _ h => h) (Or.inl ⟨by rfl, ?_⟩) hHeld ?_ ?_
                      rotate_left
                      ·rintro w' ⟨s0, s1, s2, s3⟩
                       go_simp
                       with_reducible rfl
                      rotate_left
                      ·simp only [Act.put, List.setIfInBounds_toArray, List.set_cons_zero, List.set_cons_succ, i64_w, i32_w]
                       rfl
                      refine take_ (i := 14) (N := some 83) (v := ?_) (a' := ?_) (bs 18 32767) rfl rfl (take_ofW HT_.out HW_.out zk) (fun _ _ _ h => h) (Or.inl ⟨by rfl, ?_⟩) hHeld ?_ ?_
                      rotate_left
                      ·rintro w' ⟨s0, s1, s2, s3⟩
                       go_simp
                       with_reducible rfl
                      rotate_left
                      ·simp only [Act.put, List.setIfInBounds_toArray, List.set_cons_zero, List.set_cons_succ, i64_w, i32_w]
                       rfl
                      refine one_ (i := 15) (N := some 84) (bs 18 65535) rfl rfl (one_of HT_.out zk) (by decide) (fun K hK => ?_)
                      refine goes_ Tryd.func36 zk rfl #[.agg #[.bool ((rd_T39 qD (ji25)).f0), .slice qU ((rd_T39 qD (ji25)).f1).length qV], .agg #[.bool ((rd_T39 (rd_L5 l0 qA) qC).f0), .slice qI ((rd_T39 (rd_L5 l0 qA) qC).f1).length qJ]] (by rfl) rfl rfl (by (try simp only [List.map_toArray, List.map_cons, List.map_nil]); first | done | (simp only [hji25]; rfl) | rfl | (simp only [List.length_drop, List.length_take]; rfl)) ?_
                      with_reducible refine (integer_Int_Add.calls k4 ((rd_T39 qD (ji25)).f0) _ _ ((rd_T39 qD (ji25)).f1) ((rd_T39 (rd_L5 l0 qA) qC).f0) _ _ ((rd_T39 (rd_L5 l0 qA) qC).f1) qN qO _ ?side1 ?side2 ?side3 ?side4 A28.out).mono ?_
                      (case side1 => repeat (first | exact (by repeat (first | (with_reducible exact qK.out) | (with_reducible refine Kd.C_alloc ?_ _) | (with_reducible refine Kd.C_drewN ?_ _) | (with_reducible refine Kd.C_drew ?_) | exact qK.out)) | (with_reducible refine Kd.C_alloc ?_ _) | (with_reducible refine Kd.C_drewN ?_ _) | (with_reducible refine Kd.C_drew ?_)))
                      (case side2 => exact qb.out)
                      (case side3 => refine lY ?_; exact (Kd.z8_ qZ.out HB.out))
                      (case side4 => exact qa.out)
                      rintro e w35 ⟨v366, rfl, ho0, hb⟩
                      have HS2_ := (hb.cell (World.block_lt_of_cell? _ _ (hHeld.2.2.1))).trans (hHeld.2.2.1)
                      have HS3_ := (hb.cell (World.block_lt_of_cell? _ _ (hHeld.2.2.2))).trans (hHeld.2.2.2)
                      refine ⟨_, rfl, ?_⟩
                      replace qP := aM (Kd.V_below (lV qP) hb)
                      have qS := aM (Kd.V_lower (Kd.V_mono (ok' := fun k_ => (w.heap.size ≤ k_) ∧ some k_ ≠ (.slice (some ad363) qD.length qe : Value).ownBlock ∧ k_ ≠ qE) ho0 (fun k_ hk_ => ⟨(Nat.le_trans (z4_ (zB HB)) hk_), (Kd.fresh' (Kd.N_lt (lN qB)) k_ hk_), (Kd.freshB (g := qE) (o := .cells #[.bool ((rd_T39 (rd_L5 l0 qA) qC).f0), .slice qI ((rd_T39 (rd_L5 l0 qA) qC).f1).length qJ] 39 (0, 0)) (lK qH) k_ hk_)⟩)) (z4_ (zB HB)))
                      replace qB := aM (Kd.N_below (lN qB) hb)
                      replace qH := aM (z5_ (g := qE) (lK qH) hb)
                      replace qK := aM (Kd.z8_ (by repeat (first | (with_reducible exact qK.out) | (with_reducible refine Kd.C_alloc ?_ _) | (with_reducible refine Kd.C_drewN ?_ _) | (with_reducible refine Kd.C_drew ?_) | exact qK.out)) hb)
                      replace HB := aM (z6_ (zB HB) hb)
                      (try clear hb)
                      (try clear hb2)
                      (try clear hk)
                      (try clear hi)
                      (try clear ho0)
                      have p29 : 0 ≤ ((ji25) : Int) := of_decide_eq_true za
                      have q29 : ((ji25) : Int) < ((qD.length : Int) : Int) := of_decide_eq_true za
                      obtain ⟨go29, qx, eo29, qf, gl29, cl29, HG29⟩ := Kd.N_form qB.out (by omega)
                      (first | cases eo29 | (injection eo29 with ea_ en_ ec_; (first | subst ea_ | (injection ea_ with ea_; subst ea_)); subst ec_; clear en_))
                      have GB29 := aM qf
                      have GG29 := aM HG29
                      clear qf gl29 HG29
                      (first | simp only [add_plain] at hx363_0 | skip)
                      (first | simp only [add_plain] at hx363_1 | skip)
                      obtain ⟨ce29, hcl29, hM29, hcc29, hfr29⟩ := Kd.N_elem qB.out z39 ((ji25) : Int) p29 q29
                      obtain ⟨ua29_1, uc29_1, rfl, ul29_1, ge29_1⟩ := k39_openF hM29
                      have hx29_0 : World.cell? _ ⟨go29, ((ji25) : Int).toNat * 2, none⟩ = some (.bool ((rd_T39 qD (ji25)).f0)) := hcc29 0 _ rfl
                      have hx29_1 : World.cell? _ ⟨go29, ((ji25) : Int).toNat * 2 + 1, none⟩ = some (.slice ua29_1 ((rd_T39 qD (ji25)).f1).length uc29_1) := hcc29 1 _ rfl
                      have hf29_0 : World.frozen? _ ⟨go29, ((ji25) : Int).toNat * 2, none⟩ = false := hfr29 0
                      have hf29_1 : World.frozen? _ ⟨go29, ((ji25) : Int).toNat * 2 + 1, none⟩ = false := hfr29 1
                      clear hcl29 hcc29 hfr29 hM29
                      replace p29 := eq_true p29
                      replace q29 := eq_true q29
                      obtain ⟨qi, qj, eo37⟩ := Kd.V_slice qS.out
                      (first | subst eo37 | (injection eo37 with f1_ f2_ f3_; have f4_ := f1_.symm; have f5_ := f3_.symm; clear f1_ f2_ f3_; subst f4_; subst f5_))
                      have HX36 := aM (show Kd.N k39 39 _ w.heap.size (fun k_ => (w.heap.size ≤ k_) ∧ k_ ≠ qE) (.slice (some ⟨go29, 0, none⟩) qD.length qe) qD from (Kd.N_mono (qB.out) (fun k_ hk => ⟨hk.1, hk.2⟩)))
                      obtain ⟨ce36, hcl36, hM36, hcc36, hfr36⟩ := Kd.N_elem HX36.out z39 ((ji25) : Int) (of_decide_eq_true za) (by have h_ : ((ji25) : Int) < ((qD.length : Int) : Int) := of_decide_eq_true za; first | exact h_ | (have e_ := (Kd.N_reads' qB.out).1; omega) | simpa using h_)
                      obtain ⟨ua36_1, uc36_1, rfl, ul36_1, ge36_1⟩ := k39_openF hM36
                      have HP36 := (Kd.N_seg HX36.out ((ji25) : Int) (of_decide_eq_true za) (by have h_ : ((ji25) : Int) < ((qD.length : Int) : Int) := of_decide_eq_true za; first | exact h_ | (have e_ := (Kd.N_reads' qB.out).1; omega) | simpa using h_) (seg := [.bool qN, .slice qi qO.length qj]) (j := 0) hcl36 hcc36 (show 2 ≤ 2 from by decide) (x' := (⟨qN, qO⟩ : S39)) (k39_mkF _ _ (⟨qN, qO⟩ : S39) (Kd.V_reads' (Kd.V_mono (ok' := (fun k_ => ((fun k_ => (w.heap.size ≤ k_) ∧ k_ ≠ qE)) k_ ∧ k_ ≠ go29)) (qS.out) (fun k_ hk => ⟨⟨hk.1, hk.2.2⟩, fun e_ => (hk.2.1) (by rw [e_]; rfl)⟩))).2.1 (Kd.V_F (Kd.V_mono (ok' := (fun k_ => ((fun k_ => (w.heap.size ≤ k_) ∧ k_ ≠ qE)) k_ ∧ k_ ≠ go29)) (qS.out) (fun k_ hk => ⟨⟨hk.1, hk.2.2⟩, fun e_ => (hk.2.1) (by rw [e_]; rfl)⟩)))) (fun _ hk => hk)).1
                      rw [← Ny368.out] at HP36
                      have HQ36 := aM HP36
                      clear hcl36 hcc36 hfr36 hM36 HP36
                      refine hK.out _ _ ⟨(z2_ qH.out 0).trans rfl, (z2_ qH.out 1).trans rfl, HS2_, HS3_⟩ (fun hHeld => ?_)
                      clear hK K
                      refine norm_ (a' := ?_) ?_ ?_
                      rotate_left
                      ·show Act.put _ (some 84) _ = _
                       simp only [Act.put, List.setIfInBounds_toArray, List.set_cons_zero, List.set_cons_succ, i64_w, i32_w]
                       rfl
                      refine pQ 16 85 18 131071 ?_
                      refine last_ (i := 17) (N := none) (bs 18 262143) rfl rfl (one_of HT_.out zk) (by decide) (fun K hK => ?_)
                      refine skip_ (w1 := ?_) (by rfl) rfl ?_ ?_
                      rotate_left
                      ·go_simp
                       rfl
                      refine hK.out _ _ ?_
                      clear hK K
                      refine done_ (done_of HT_.out zk) ?_
                      try go_wp2
                      go_roundg k4
                      case measure => have := HJ3.out; have := HK2.out; have := HK3.out; have := HK4.out; omega
                      case rel => exact ⟨(y368), (wrap64 (qC + 1)), zT, H', ⟨by have := HJ3.out; have := HK2.out; have := HK3.out; have := HK4.out; omega⟩, ⟨by (with_reducible repeat (first | apply Kd.N_alloc | apply Kd.N_drewN | apply Kd.N_drew)); exact Kd.N_mono HQ36.out (fun _ hk => hk.1)⟩, ⟨zB HB⟩⟩
                     ·rw [if_neg c27] at H
                      exact absurd H (by simp)
                    ·rw [if_neg c26] at H
                     exact absurd H (by simp)
                   ·rw [if_neg c24] at H
                    exact absurd H (by simp)
                  ·rw [if_neg c23] at H
                   exact absurd H (by simp)
                 ·rw [if_neg c22] at H
                  have c22b0 := decide_eq_false c22
                  clear c22
                  have H' := aM H
                  clear H
                  go_wp2
                  go_roundg k4
                  case measure => have := HJ3.out; have := HK2.out; have := HK3.out; have := HK4.out; omega
                  case rel => exact ⟨(qD), (wrap64 (qA + 1)), zT, H', ⟨by have := HJ3.out; have := HK2.out; have := HK3.out; have := HK4.out; omega⟩, ⟨by (with_reducible repeat (first | apply Kd.N_alloc | apply Kd.N_drewN | apply Kd.N_drew)); exact qB.out⟩, ⟨zB HB⟩⟩
              ·rw [if_neg c21] at H
               exact absurd H (by simp)
             ·rw [if_neg c20] at H
              exact absurd H (by simp)
            ·rw [if_neg c19] at H
             have c19b0 := decide_eq_false c19
             clear c19
             replace H := zbs H
             obtain ⟨qM, A380, H⟩ := H
             replace H : (if qM ≥ a2 then (some (([] : List (S39)), 5)) else (if a2 = 0 then (some (([] : List (S39)), 0)) else (if 0 ≤ a2 then (if a2 ≤ (qG.length : Int) then (some ((qG.take (a2 : Int).toNat), 0)) else (none)) else (none)))) = some (r1, r2) := H
             have A38 := aM A380
             clear A380
             by_cases c39 : qM ≥ a2
             ·rw [if_pos c39] at H
              have c39b0 := decide_eq_true c39
              clear c39
              simp only [Option.some.injEq, Prod.mk.injEq] at H
              obtain ⟨rfl, rfl⟩ := H
              obtain ⟨qk, ql, eo40⟩ := Kd.N_slice qB.out
              subst eo40
              go_wp2_with (first | ((with_reducible refine gate_callee (f := 37) rfl ?_); refine z13_ (some 89) rfl rfl Tryd.func37 zk rfl #[.slice qk qG.length ql] rfl zA ?_; (with_reducible refine (poly_Degree.calls k3 _ _ qG qM _ ?side1 ?side2 A38.out).mono ?_); (case side1 => refine lY ?_; exact (Kd.N_reads' qB.out).2.2); (case side2 => exact (Kd.N_reads' qB.out).2.1); rintro e w41 ⟨rfl, hb⟩; refine ⟨_, rfl, ?_⟩; replace qB := aM (Kd.N_below (lN qB) hb); replace HB := aM (z6_ (lB HB) hb); (try clear hb)))
              go_ret2
              exact ⟨_, zE, Kd.V_nil _ _ _ _ _, zB HB⟩
             ·rw [if_neg c39] at H
              have c39b0 := decide_eq_false c39
              clear c39
              by_cases c42 : a2 = 0
              ·rw [if_pos c42] at H
               have c42b0 : (a2 == 0) = true := beq_iff_eq.mpr c42
               have c42b1 : (a2 != 0) = false := bne_eq_false_iff_eq.mpr c42
               clear c42
               simp only [Option.some.injEq, Prod.mk.injEq] at H
               obtain ⟨rfl, rfl⟩ := H
               obtain ⟨qm, qn, eo43⟩ := Kd.N_slice qB.out
               subst eo43
               go_wp2_with (first | ((with_reducible refine gate_callee (f := 37) rfl ?_); refine z13_ (some 89) rfl rfl Tryd.func37 zk rfl #[.slice qm qG.length qn] rfl zA ?_; (with_reducible refine (poly_Degree.calls k3 _ _ qG qM _ ?side1 ?side2 A38.out).mono ?_); (case side1 => refine lY ?_; exact (Kd.N_reads' qB.out).2.2); (case side2 => exact (Kd.N_reads' qB.out).2.1); rintro e w44 ⟨rfl, hb⟩; refine ⟨_, rfl, ?_⟩; replace qB := aM (Kd.N_below (lN qB) hb); replace HB := aM (z6_ (lB HB) hb); (try clear hb)))
               go_ret2
               exact ⟨_, zE, Kd.V_nil _ _ _ _ _, zB HB⟩
              ·rw [if_neg c42] at H
               have c42b0 : (a2 == 0) = false := beq_eq_false_iff_ne.mpr c42
               have c42b1 : (a2 != 0) = true := bne_iff_ne.mpr c42
               by_cases c45 : 0 ≤ a2
               ·rw [if_pos c45] at H
                have c45b0 := eq_true c45
                have c45b1 := decide_eq_true c45
                clear c45
                by_cases c46 : a2 ≤ (qG.length : Int)
                ·rw [if_pos c46] at H
                 have c46b0 := eq_true c46
                 have c46b1 := decide_eq_true c46
                 clear c46
                 obtain ⟨y370, hy370⟩ : ∃ y_ : List (S39), y_ = (qG.take (a2 : Int).toNat) := ⟨_, rfl⟩
                 replace H : (some (y370, 0)) = some (r1, r2) := zH hy370 H
                 have Ny370 := aM hy370
                 clear hy370
                 simp only [Option.some.injEq, Prod.mk.injEq] at H
                 obtain ⟨rfl, rfl⟩ := H
                 obtain ⟨qT, qQ, eo47⟩ := Kd.N_slice qB.out
                 subst eo47
                 go_wp2_with (first | ((with_reducible refine gate_callee (f := 37) rfl ?_); refine z13_ (some 89) rfl rfl Tryd.func37 zk rfl #[.slice qT qG.length qQ] rfl zA ?_; (with_reducible refine (poly_Degree.calls k3 _ _ qG qM _ ?side1 ?side2 A38.out).mono ?_); (case side1 => refine lY ?_; exact (Kd.N_reads' qB.out).2.2); (case side2 => exact (Kd.N_reads' qB.out).2.1); rintro e w48 ⟨rfl, hb⟩; refine ⟨_, rfl, ?_⟩; replace qB := aM (Kd.N_below (lN qB) hb); replace HB := aM (z6_ (lB HB) hb); (try clear hb); have q49 : (a2 : Int) ≤ ((qG.length : Int) : Int) := of_decide_eq_true za; obtain ⟨i049, hi049, _, hsz49, _⟩ := info_parts info39; have hroom49 : qG.length ≤ qQ := (Kd.N_reads' qB.out).2.1; have hC49 : Kd.F k39 _ _ qT qG.length qG := (Kd.V_at (base := w.heap.size) (Kd.N_V qB.out)).2.2; have hcut49 := cut_to (P := Tryd.prog) 24 39 .i64 Tryd.underlying24 hi049 qT qG.length qQ a2 (of_decide_eq_true za) q49 hroom49; have hr49 := Kd.F_take (m := (a2 : Int).toNat) hC49 (by omega); have hy49 : y370.length = (a2 : Int).toNat := (by rw [Ny370.out, List.length_take]; omega); rw [← Ny370.out] at hr49; rw [← hy49] at hcut49; have qh := aM (show Kd.V k39 39 _ w.heap.size _ (.slice qT y370.length qQ) y370 from Kd.V_mk (by omega) hr49); have qv := aM (show y370.length ≤ qQ from by omega); have hcapq := eq_true (show ((a2 : Int) ≤ (qQ : Int)) from by omega); clear hr49 hC49 hroom49 hi049 hsz49; have KY49 := aM hy49; clear hy49; replace q49 := eq_true q49))
                 go_ret2
                 exact ⟨_, zE, by (with_reducible repeat (first | apply Kd.V_alloc | apply Kd.V_drewN | apply Kd.V_drew)); exact Go.Proofs.YtakmkhokbcjapaaDoor.Own.V_of_cap qh.out (by rw [KY49.out]; rfl), zB HB⟩
                ·rw [if_neg c46] at H
                 exact absurd H (by simp)
               ·rw [if_neg c45] at H
                exact absurd H (by simp)
         ·rw [if_neg c16] at H
          exact absurd H (by simp)
        ·rw [if_neg c15] at H
         exact absurd H (by simp)
end Go.Proofs.YtakmkhokbcjapaaDoor.XA
end
