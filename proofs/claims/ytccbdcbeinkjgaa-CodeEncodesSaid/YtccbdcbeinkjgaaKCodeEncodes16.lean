/- Part 16 of the proof of the law CodeEncodes for every input: words, walks and plain laws. No condition. -/
import Derived.Test.YtccbdcbeinkjgaaKCodeEncodes15
section
namespace Go.Proofs.Ytccbdcbeinkjgaa.XA
open Go.Proofs.Ytccbdcbeinkjgaa.Lift Go.RowKit Go.Proofs.YtccbdcbeinkjgaaW.PrintWords Go.Proofs.YtccbdcbeinkjgaaW.PrintLast Go.Proofs.YtccbdcbeinkjgaaW.PrintMore
attribute [local go_sem] max2_int min2_int max_two min_two max_three min_three max_four min_four
set_option linter.unusedVariables false
set_option linter.unusedSimpArgs false

/-! ### swageref08_Check: function 59 -/
mutual
def swageref08_Check.j0 : Nat → Bool → Int → Int → List (S63) → List Int → Option (Int × Bool)
 | 0, _, _, _, _, _ => none
 | k + 1, x38, qL, qK, qI, qJ => if x38 = true then (some ((-1), true)) else (swageref08_Check.l0 k 0 qL qK qI qJ)
def swageref08_Check.l0 : Nat → Int → Int → Int → List (S63) → List Int → Option (Int × Bool)
 | 0, _, _, _, _, _ => none
 | k + 1, x4, qL, qK, qI, qJ => if x4 < (qJ.length : Int) then (if 0 ≤ x4 then (if (rd qJ x4) < 0 then (some ((-1), true)) else (if (rd qJ x4) ≥ qK then (some ((-1), true)) else (swageref08_Check.l0 k (wrap64 (x4 + 1)) qL qK qI qJ))) else (none)) else (swageref08_Check.l1 k 0 qL qK qI qJ)
def swageref08_Check.l1 : Nat → Int → Int → Int → List (S63) → List Int → Option (Int × Bool)
 | 0, _, _, _, _, _ => none
 | k + 1, x5, qL, qK, qI, qJ => if x5 < (qI.length : Int) then (if 0 ≤ x5 then ((swageref08_May.f k ((rd_T63 qI x5).f0) ((rd_T63 qI x5).f1) ((rd_T63 qI x5).f2) ((rd_T63 qI x5).f3) ((rd_T63 qI x5).f4) qK).bind fun qS => (if qS = true then (swageref08_Check.l1 k (wrap64 (x5 + 1)) qL qK qI qJ) else (some (x5, true)))) else (none)) else (some (0, false))
end
def swageref08_Check.f (k : Nat) (qF : Int) (qE : Int) (qB : List (S63)) (qD : List Int) : Option (Int × Bool) := if qF < 1 then (swageref08_Check.j0 k true qF qE qB qD) else (if qF > qE then (swageref08_Check.j0 k true qF qE qB qD) else (if qE > 128 then (swageref08_Check.j0 k true qF qE qB qD) else (if (qB.length : Int) > 16384 then (swageref08_Check.j0 k true qF qE qB qD) else (if (qD.length : Int) < 1 then (swageref08_Check.j0 k true qF qE qB qD) else (swageref08_Check.j0 k (decide (128 < qD.length)) qF qE qB qD)))))
theorem swageref08_Check.mono_l : ∀ k, (∀ y0 y1 y2 y3 y4, LeO (swageref08_Check.j0 k y0 y1 y2 y3 y4) (swageref08_Check.j0 (k + 1) y0 y1 y2 y3 y4)) ∧ (∀ y0 y1 y2 y3 y4, LeO (swageref08_Check.l0 k y0 y1 y2 y3 y4) (swageref08_Check.l0 (k + 1) y0 y1 y2 y3 y4)) ∧ (∀ y0 y1 y2 y3 y4, LeO (swageref08_Check.l1 k y0 y1 y2 y3 y4) (swageref08_Check.l1 (k + 1) y0 y1 y2 y3 y4))
 | 0 => ⟨fun _ _ _ _ _ r h => by simp [swageref08_Check.j0] at h, fun _ _ _ _ _ r h => by simp [swageref08_Check.l0] at h, fun _ _ _ _ _ r h => by simp [swageref08_Check.l1] at h⟩
 | k + 1 => by
  obtain ⟨ih0, ih1, ih2⟩ := swageref08_Check.mono_l k
  refine ⟨?_, ?_, ?_⟩
  ·intro y0 y1 y2 y3 y4
   unfold swageref08_Check.j0
   have im0 := @swageref08_May.mono; exact zM
  ·intro y0 y1 y2 y3 y4
   unfold swageref08_Check.l0
   have im0 := @swageref08_May.mono; exact zM
  ·intro y0 y1 y2 y3 y4
   unfold swageref08_Check.l1
   have im0 := @swageref08_May.mono; exact zM
theorem swageref08_Check.mono : ∀ a0 a1 a2 a3 k, LeO (swageref08_Check.f k a0 a1 a2 a3) (swageref08_Check.f (k + 1) a0 a1 a2 a3) := by
 intro a0 a1 a2 a3 k
 obtain ⟨ih0, ih1, ih2⟩ := swageref08_Check.mono_l k
 unfold swageref08_Check.f
 have im0 := @swageref08_May.mono; exact zM
def swageref08_Check.T6 : Bool × List (List Nat × List Nat) := (true, [([], []), ([0], [0]), ([], []), ([1, 2], [1, 2]), ([3], [3]), ([4], [4]), ([5], [5]), ([6], [6]), ([7, 6], [6, 7]), ([6], [6]), ([8, 9, 6], [6, 8, 9]), ([10, 6], [6, 10]), ([6], [6]), ([12, 6], [6, 12]), ([11, 13, 6], [6, 11, 13]), ([6, 14], [6, 14])])
def swageref08_Check.B6 : List Nat := [0, 1, 0, 7, 15, 31, 63, 127, 255, 127, 1023, 2047, 127, 4223, 16383, 32767]
theorem swageref08_Check.tab6 : rtab .any (opsOf Try.f59 6) = swageref08_Check.T6 := by kernel_rfl
theorem swageref08_Check.bits6 : waitsOk swageref08_Check.T6.2 swageref08_Check.B6 = true := by kernel_rfl
def swageref08_Check.T11 : Bool × List (List Nat × List Nat) := (true, [([], []), ([0], [0]), ([], []), ([1, 2], [1, 2]), ([3], [3]), ([], []), ([5], [5]), ([4, 6], [4, 6]), ([7], [7])])
def swageref08_Check.B11 : List Nat := [0, 1, 0, 7, 15, 0, 32, 127, 255]
theorem swageref08_Check.tab11 : rtab .any (opsOf Try.f59 11) = swageref08_Check.T11 := by kernel_rfl
theorem swageref08_Check.bits11 : waitsOk swageref08_Check.T11.2 swageref08_Check.B11 = true := by kernel_rfl
set_option maxHeartbeats 8000000 in
set_option maxRecDepth 100000 in
theorem swageref08_Check.calls (k : Nat) (qF : Int) (qE : Int) (qO : Option Addr) (qM : Nat) (qB : List (S63)) (qP : Option Addr) (qN : Nat) (qD : List Int) (r1 : Int) (r2 : Bool) (w : World) (qT : Kd.C k63 w qO qB.length qB) (qU : qB.length ≤ qM) (qV : Kd.C (Kd.int .i64) w qP qD.length qD) (qW : qD.length ≤ qN) (h : swageref08_Check.f k qF qE qB qD = some (r1, r2)) :
  Calls Try.prog 59 #[.agg #[.int .i64 qF, .int .i64 qE, .slice qO qB.length qM, .slice qP qD.length qN]] w fun e w' => e = .returned (.tuple #[.int .i64 r1, .bool r2]) ∧ Below w.heap.size w w' := by
 have hu26 := Try.underlying26
 have hu63 := Try.underlying63
 have qX := aM qT
 have qy := aM qU
 clear qT qU
 have qQ := aM qV
 have qz := aM qW
 clear qV qW
 have HB := aM (Below.refl w.heap.size w)
 have H : (if qF < 1 then (swageref08_Check.j0 k true qF qE qB qD) else (if qF > qE then (swageref08_Check.j0 k true qF qE qB qD) else (if qE > 128 then (swageref08_Check.j0 k true qF qE qB qD) else (if (qB.length : Int) > 16384 then (swageref08_Check.j0 k true qF qE qB qD) else (if (qD.length : Int) < 1 then (swageref08_Check.j0 k true qF qE qB qD) else (swageref08_Check.j0 k (decide (128 < qD.length)) qF qE qB qD)))))) = some (r1, r2) := h
 clear h
 have HC2 := aM H
 clear H
 go_enter Try.func59, Try.ntmps59
 go_upto_region 1 with (first | ((with_reducible refine gate_dst (N := 1) rfl ?_); (try (refine gate_guard (by rfl) ?_; dsimp only)); refine box_event rfl (N := 1) rfl (cs := #[.int .i64 qF, .int .i64 qE, .slice qO qB.length qM, .slice qP qD.length qN]) (t := 26) zG ?_; intro qG hg w3 hbox hb; have qA := aM (hbox); have q0 := aM ((by rw [hg]; exact (below_size (lB HB)) : w.heap.size ≤ qG)); have q1 := aM ((by rw [hg]; exact (below_size (lB HB)) : w.heap.size ≤ qG)); replace HB := aM (below_step (lB HB) hb); clear hb hbox hg))
 (try simp only [Act.put, List.setIfInBounds_toArray, List.set_cons_zero, List.set_cons_succ])
 go_cut [38] (fun v38 wc => ∃ (kq : Nat) (qR : Bool), v38 = .bool qR ∧ Aside0 (swageref08_Check.j0 kq qR qF qE qB qD = some (r1, r2)) ∧ Aside0 (kq ≤ k) ∧ Aside0 (wc.heap[qG]? = some (.cells #[.int .i64 qF, .int .i64 qE, (.slice qO qB.length qM), (.slice qP qD.length qN)] 26 (0, 0))) ∧ Aside0 (Below w.heap.size w wc))
 case first =>
  have H := HC2.out
  clear HC2
  by_cases c4 : qF < 1
  ·rw [if_pos c4] at H
   have c4b0 := decide_eq_true c4
   clear c4
   (first | rw [c4b0] | (simp only [i64_w, i32_w]; rw [c4b0]) | skip)
   have H' := aM H
   clear H
   have qs := zc4 qA.out
   have qt := fun i_ : Nat => blk_frozen qA.out i_
   go_wp2
   go_meet
   case rel => exact ⟨_, (true), zT, H', ⟨zO⟩, ⟨zb qA⟩, ⟨zB HB⟩⟩
  ·rw [if_neg c4] at H
   have c4b0 := decide_eq_false c4
   clear c4
   (first | rw [c4b0] | (simp only [i64_w, i32_w]; rw [c4b0]) | skip)
   by_cases c6 : qF > qE
   ·rw [if_pos c6] at H
    have c6b0 := decide_eq_true c6
    clear c6
    have H' := aM H
    clear H
    have qu := zc4 qA.out
    have qv := fun i_ : Nat => blk_frozen qA.out i_
    go_wp2
    go_meet
    case rel => exact ⟨_, (true), zT, H', ⟨zO⟩, ⟨zb qA⟩, ⟨zB HB⟩⟩
   ·rw [if_neg c6] at H
    have c6b0 := decide_eq_false c6
    clear c6
    by_cases c8 : qE > 128
    ·rw [if_pos c8] at H
     have c8b0 := decide_eq_true c8
     clear c8
     have H' := aM H
     clear H
     have qw := zc4 qA.out
     have qx := fun i_ : Nat => blk_frozen qA.out i_
     go_wp2
     go_meet
     case rel => exact ⟨_, (true), zT, H', ⟨zO⟩, ⟨zb qA⟩, ⟨zB HB⟩⟩
    ·rw [if_neg c8] at H
     have c8b0 := decide_eq_false c8
     clear c8
     by_cases c10 : (qB.length : Int) > 16384
     ·rw [if_pos c10] at H
      have c10b0 := decide_eq_true c10
      have c10b1 : decide (16384 < qB.length) = true := decide_eq_true (by omega)
      clear c10
      have H' := aM H
      clear H
      have qY := zc4 qA.out
      have qZ := fun i_ : Nat => blk_frozen qA.out i_
      go_wp2
      go_meet
      case rel => exact ⟨_, (true), zT, H', ⟨zO⟩, ⟨zb qA⟩, ⟨zB HB⟩⟩
     ·rw [if_neg c10] at H
      have c10b0 := decide_eq_false c10
      have c10b1 : decide (16384 < qB.length) = false := decide_eq_false (by omega)
      clear c10
      by_cases c12 : (qD.length : Int) < 1
      ·rw [if_pos c12] at H
       have c12b0 := decide_eq_true c12
       have c12b1 : decide (qD.length < 1) = true := decide_eq_true (by omega)
       clear c12
       have H' := aM H
       clear H
       have qa := zc4 qA.out
       have qb := fun i_ : Nat => blk_frozen qA.out i_
       go_wp2
       go_meet
       case rel => exact ⟨_, (true), zT, H', ⟨zO⟩, ⟨zb qA⟩, ⟨zB HB⟩⟩
      ·rw [if_neg c12] at H
       have c12b0 := decide_eq_false c12
       have c12b1 : decide (qD.length < 1) = false := decide_eq_false (by omega)
       clear c12
       have H' := aM H
       clear H
       have qc := zc4 qA.out
       have qd := fun i_ : Nat => blk_frozen qA.out i_
       go_wp2
       go_meet
       case rel => exact ⟨_, (decide (128 < qD.length)), (by first | rfl | (simp; done) | (simp [*]; done) | (simp; omega)), H', ⟨zO⟩, ⟨zb qA⟩, ⟨zB HB⟩⟩
 case rest =>
  clear HC2
  obtain ⟨kq, qR, rfl, HA, HJ1, qA, HB⟩ := hcut
  cases kq with
  | zero => exact absurd HA.out (by simp [swageref08_Check.j0])
  | succ kj1 =>
   have H := HA.out
   clear HA
   simp only [swageref08_Check.j0] at H
   by_cases c15 : qR = true
   ·subst c15
    have H1 : (some ((-1), true)) = some (r1, r2) := by rw [if_pos rfl] at H; exact H
    clear H
    have H := H1
    clear H1
    simp only [Option.some.injEq, Prod.mk.injEq] at H
    obtain ⟨rfl, rfl⟩ := H
    go_wp2
    go_ret2
    exact ⟨zE, zB HB⟩
   ·replace c15 := Bool.eq_false_iff.mpr c15
    subst c15
    have H1 : (swageref08_Check.l0 kj1 0 qF qE qB qD) = some (r1, r2) := by rw [if_neg (show ¬ (false = true) by decide)] at H; exact H
    clear H
    have H := H1
    clear H1
    have H' := aM H
    clear H
    go_wp2
    go_loopg [4] kj1 (fun kq v4 w' => ∃ (qH : Int), v4 = .int .i64 qH ∧ Aside0 (swageref08_Check.l0 kq qH qF qE qB qD = some (r1, r2)) ∧ Aside0 (kq ≤ kj1) ∧ Aside0 (w'.heap[qG]? = some (.cells #[.int .i64 qF, .int .i64 qE, (.slice qO qB.length qM), (.slice qP qD.length qN)] 26 (0, 0))) ∧ Aside0 (Below w.heap.size w w'))
    case atStart => exact ⟨(0), zT, H', ⟨Nat.le_refl _⟩, ⟨zb qA⟩, ⟨zB HB⟩⟩
    case round =>
     clear H'
     try clear c15
     obtain ⟨qH, rfl, HA, HK2, qA, HB⟩ := hrel
     cases gk with
     | zero => exact absurd HA.out (by simp [swageref08_Check.l0])
     | succ k2 =>
      have H := HA.out
      clear HA
      simp only [swageref08_Check.l0] at H
      by_cases c16 : qH < (qD.length : Int)
      ·rw [if_pos c16] at H
       have c16b0 := decide_eq_true c16
       clear c16
       by_cases c17 : 0 ≤ qH
       ·rw [if_pos c17] at H
        have c17b0 := decide_eq_true c17
        clear c17
        by_cases c18 : (rd qD qH) < 0
        ·rw [if_pos c18] at H
         have c18b0 := decide_eq_true c18
         clear c18
         simp only [Option.some.injEq, Prod.mk.injEq] at H
         obtain ⟨rfl, rfl⟩ := H
         have qe := zc4 qA.out
         have qf := fun i_ : Nat => blk_frozen qA.out i_
         try go_wp2
         have n0_ := aM (blk_drew qA.out)
         have n1_ := aM (below_drew1 HB.out)
         clear qA
         clear HB
         have qA := n0_
         have HB := n1_
         clear n0_ n1_
         have p829 : 0 ≤ (qH : Int) := of_decide_eq_true za
         have q829 : qH < (qD.length : Int) := of_decide_eq_true za
         obtain ⟨ad829, e829, hx829_0⟩ := Kd.at_int qQ.out qH p829 q829
         have hw829_0 := hx829_0
         cases e829
         replace hx829_0 := (HB.out.cell (World.block_lt_of_cell? w _ hx829_0)).trans hx829_0
         replace p829 := eq_true p829
         replace q829 := eq_true q829
         refine start_ (n := 16) (S := fun w' => w'.cell? ⟨qG, 0, none⟩ = some (.int .i64 qF) ∧ w'.cell? ⟨qG, 1, none⟩ = some (.int .i64 qE) ∧ w'.cell? ⟨qG, 2, none⟩ = some (.slice qO qB.length qM) ∧ w'.cell? ⟨qG, 3, none⟩ = some (.slice (some ad829) qD.length qN) ∧ w'.cell? (ad829.add (qH).toNat) = some (.int .i64 (rd qD qH))) (ds := []) (bs 16 0) zk rfl rfl ⟨(blk_cell qA.out 0).trans rfl, (blk_cell qA.out 1).trans rfl, (blk_cell qA.out 2).trans rfl, (blk_cell qA.out 3).trans rfl, ((HB.out.cell (World.block_lt_of_cell? w _ hw829_0)).trans hw829_0)⟩ (fun hHeld => ?_); refine with_tabW swageref08_Check.tab6 swageref08_Check.bits6 (fun HT_ HW_ => ?_)
         generalize wr.drew = w20 at qA HB hx829_0 hHeld ⊢
         refine pQ 0 46 16 1 ?_
         refine pQ 2 48 16 5 ?_
         refine take_ (i := 1) (N := some 47) (v := ?_) (a' := ?_) (bs 16 7) rfl rfl (take_ofW HT_.out HW_.out zk) (fun _ _ _ h => h) (Or.inl ⟨by rfl, ?_⟩) hHeld ?_ ?_
         rotate_left
         ·rintro w' ⟨s0, s1, s2, s3, s4⟩
          go_simp
          with_reducible rfl
         rotate_left
         ·simp only [Act.put, List.setIfInBounds_toArray, List.set_cons_zero, List.set_cons_succ, i64_w, i32_w]
          rfl
         refine pQ 3 49 16 15 ?_
         refine take_ (i := 4) (N := some 50) (v := ?_) (a' := ?_) (bs 16 31) rfl rfl (take_ofW HT_.out HW_.out zk) (fun _ _ _ h => h) (Or.inl ⟨by rfl, ?_⟩) hHeld ?_ ?_
         rotate_left
         ·rintro w' ⟨s0, s1, s2, s3, s4⟩
          go_simp
          with_reducible rfl
         rotate_left
         ·simp only [Act.put, List.setIfInBounds_toArray, List.set_cons_zero, List.set_cons_succ, i64_w, i32_w]
          rfl
         refine pQ 5 51 16 63 ?_
         refine pQ 6 52 16 127 ?_
         refine pure_ (i := 7) (N := some 53) (v := undef) (a' := ?_) (bs 16 255) rfl rfl (any_of HT_.out zk) (fun _ _ _ h => h) (Or.inr ⟨by rfl, rfl⟩) ?_ ?_
         rotate_left
         ·simp only [Act.put, List.setIfInBounds_toArray, List.set_cons_zero, List.set_cons_succ, i64_w, i32_w]
          rfl
         refine pure_ (i := 8) (N := some 54) (v := undef) (a' := ?_) (bs 16 511) rfl rfl (any_of HT_.out zk) (fun _ _ _ h => h) (Or.inr ⟨by rfl, rfl⟩) ?_ ?_
         rotate_left
         ·simp only [Act.put, List.setIfInBounds_toArray, List.set_cons_zero, List.set_cons_succ, i64_w, i32_w]
          rfl
         refine pure_ (i := 9) (N := some 55) (v := undef) (a' := ?_) (bs 16 1023) rfl rfl (any_of HT_.out zk) (fun _ _ _ h => h) (Or.inr ⟨by rfl, rfl⟩) ?_ ?_
         rotate_left
         ·simp only [Act.put, List.setIfInBounds_toArray, List.set_cons_zero, List.set_cons_succ, i64_w, i32_w]
          rfl
         refine pure_ (i := 10) (N := some 56) (v := undef) (a' := ?_) (bs 16 2047) rfl rfl (any_of HT_.out zk) (fun _ _ _ h => h) (Or.inr ⟨by rfl, rfl⟩) ?_ ?_
         rotate_left
         ·simp only [Act.put, List.setIfInBounds_toArray, List.set_cons_zero, List.set_cons_succ, i64_w, i32_w]
          rfl
         refine pure_ (i := 11) (N := some 57) (v := undef) (a' := ?_) (bs 16 4095) rfl rfl (any_of HT_.out zk) (fun _ _ _ h => h) (Or.inr ⟨by rfl, rfl⟩) ?_ ?_
         rotate_left
         ·simp only [Act.put, List.setIfInBounds_toArray, List.set_cons_zero, List.set_cons_succ, i64_w, i32_w]
          rfl
         refine pure_ (i := 12) (N := some 58) (v := undef) (a' := ?_) (bs 16 8191) rfl rfl (any_of HT_.out zk) (fun _ _ _ h => h) (Or.inr ⟨by rfl, rfl⟩) ?_ ?_
         rotate_left
         ·simp only [Act.put, List.setIfInBounds_toArray, List.set_cons_zero, List.set_cons_succ, i64_w, i32_w]
          rfl
         refine pure_ (i := 13) (N := some 59) (v := undef) (a' := ?_) (bs 16 16383) rfl rfl (any_of HT_.out zk) (fun _ _ _ h => h) (Or.inr ⟨by rfl, rfl⟩) ?_ ?_
         rotate_left
         ·simp only [Act.put, List.setIfInBounds_toArray, List.set_cons_zero, List.set_cons_succ, i64_w, i32_w]
          rfl
         refine pure_ (i := 14) (N := some 60) (v := undef) (a' := ?_) (bs 16 32767) rfl rfl (any_of HT_.out zk) (fun _ _ _ h => h) (Or.inr ⟨by rfl, rfl⟩) ?_ ?_
         rotate_left
         ·simp only [Act.put, List.setIfInBounds_toArray, List.set_cons_zero, List.set_cons_succ, i64_w, i32_w]
          rfl
         refine pQ 15 61 16 65535 ?_
         refine done_ (done_of HT_.out zk) ?_
         try go_wp2
         go_ret2
         exact ⟨zE, zB HB⟩
        ·rw [if_neg c18] at H
         have c18b0 := decide_eq_false c18
         clear c18
         by_cases c21 : (rd qD qH) ≥ qE
         ·rw [if_pos c21] at H
          have c21b0 := decide_eq_true c21
          clear c21
          simp only [Option.some.injEq, Prod.mk.injEq] at H
          obtain ⟨rfl, rfl⟩ := H
          have qg := zc4 qA.out
          have qh := fun i_ : Nat => blk_frozen qA.out i_
          try go_wp2
          have n0_ := aM (blk_drew qA.out)
          have n1_ := aM (below_drew1 HB.out)
          clear qA
          clear HB
          have qA := n0_
          have HB := n1_
          clear n0_ n1_
          have p829 : 0 ≤ (qH : Int) := of_decide_eq_true za
          have q829 : qH < (qD.length : Int) := of_decide_eq_true za
          obtain ⟨ad829, e829, hx829_0⟩ := Kd.at_int qQ.out qH p829 q829
          have hw829_0 := hx829_0
          cases e829
          replace hx829_0 := (HB.out.cell (World.block_lt_of_cell? w _ hx829_0)).trans hx829_0
          replace p829 := eq_true p829
          replace q829 := eq_true q829
          have p830 : 0 ≤ (qH : Int) := of_decide_eq_true za
          have q830 : qH < (qD.length : Int) := of_decide_eq_true za
          obtain ⟨ad830, e830, hx830_0⟩ := Kd.at_int qQ.out qH p830 q830
          have hw830_0 := hx830_0
          obtain rfl : ad829 = ad830 := (by injection e830)
          replace hx830_0 := (HB.out.cell (World.block_lt_of_cell? w _ hx830_0)).trans hx830_0
          replace p830 := eq_true p830
          replace q830 := eq_true q830
          refine start_ (n := 16) (S := fun w' => w'.cell? ⟨qG, 0, none⟩ = some (.int .i64 qF) ∧ w'.cell? ⟨qG, 1, none⟩ = some (.int .i64 qE) ∧ w'.cell? ⟨qG, 2, none⟩ = some (.slice qO qB.length qM) ∧ w'.cell? ⟨qG, 3, none⟩ = some (.slice (some ad829) qD.length qN) ∧ w'.cell? (ad829.add (qH).toNat) = some (.int .i64 (rd qD qH)) ∧ w'.cell? (ad829.add (qH).toNat) = some (.int .i64 (rd qD qH))) (ds := []) (bs 16 0) zk rfl rfl ⟨(blk_cell qA.out 0).trans rfl, (blk_cell qA.out 1).trans rfl, (blk_cell qA.out 2).trans rfl, (blk_cell qA.out 3).trans rfl, ((HB.out.cell (World.block_lt_of_cell? w _ hw829_0)).trans hw829_0), ((HB.out.cell (World.block_lt_of_cell? w _ hw830_0)).trans hw830_0)⟩ (fun hHeld => ?_); refine with_tabW swageref08_Check.tab6 swageref08_Check.bits6 (fun HT_ HW_ => ?_)
          generalize wr.drew = w23 at qA HB hx829_0 hx830_0 hHeld ⊢
          refine pQ 0 46 16 1 ?_
          refine pQ 2 48 16 5 ?_
          refine take_ (i := 1) (N := some 47) (v := ?_) (a' := ?_) (bs 16 7) rfl rfl (take_ofW HT_.out HW_.out zk) (fun _ _ _ h => h) (Or.inl ⟨by rfl, ?_⟩) hHeld ?_ ?_
          rotate_left
          ·rintro w' ⟨s0, s1, s2, s3, s4, s5⟩
           go_simp
           with_reducible rfl
          rotate_left
          ·simp only [Act.put, List.setIfInBounds_toArray, List.set_cons_zero, List.set_cons_succ, i64_w, i32_w]
           rfl
          refine pQ 3 49 16 15 ?_
          refine take_ (i := 4) (N := some 50) (v := ?_) (a' := ?_) (bs 16 31) rfl rfl (take_ofW HT_.out HW_.out zk) (fun _ _ _ h => h) (Or.inl ⟨by rfl, ?_⟩) hHeld ?_ ?_
          rotate_left
          ·rintro w' ⟨s0, s1, s2, s3, s4, s5⟩
           go_simp
           with_reducible rfl
          rotate_left
          ·simp only [Act.put, List.setIfInBounds_toArray, List.set_cons_zero, List.set_cons_succ, i64_w, i32_w]
           rfl
          refine pQ 5 51 16 63 ?_
          refine pQ 6 52 16 127 ?_
          refine pQ 7 53 16 255 ?_
          refine pQ 9 55 16 767 ?_
          refine pQ 12 58 16 4863 ?_
          refine take_ (i := 8) (N := some 54) (v := ?_) (a' := ?_) (bs 16 5119) rfl rfl (take_ofW HT_.out HW_.out zk) (fun _ _ _ h => h) (Or.inl ⟨by rfl, ?_⟩) hHeld ?_ ?_
          rotate_left
          ·rintro w' ⟨s0, s1, s2, s3, s4, s5⟩
           go_simp
           with_reducible rfl
          rotate_left
          ·simp only [Act.put, List.setIfInBounds_toArray, List.set_cons_zero, List.set_cons_succ, i64_w, i32_w]
           rfl
          refine pQ 10 56 16 6143 ?_
          refine take_ (i := 11) (N := some 57) (v := ?_) (a' := ?_) (bs 16 8191) rfl rfl (take_ofW HT_.out HW_.out zk) (fun _ _ _ h => h) (Or.inl ⟨by rfl, ?_⟩) hHeld ?_ ?_
          rotate_left
          ·rintro w' ⟨s0, s1, s2, s3, s4, s5⟩
           go_simp
           with_reducible rfl
          rotate_left
          ·simp only [Act.put, List.setIfInBounds_toArray, List.set_cons_zero, List.set_cons_succ, i64_w, i32_w]
           rfl
          refine take_ (i := 13) (N := some 59) (v := ?_) (a' := ?_) (bs 16 16383) rfl rfl (take_ofW HT_.out HW_.out zk) (fun _ _ _ h => h) (Or.inl ⟨by rfl, ?_⟩) hHeld ?_ ?_
          rotate_left
          ·rintro w' ⟨s0, s1, s2, s3, s4, s5⟩
           go_simp
           with_reducible rfl
          rotate_left
          ·simp only [Act.put, List.setIfInBounds_toArray, List.set_cons_zero, List.set_cons_succ, i64_w, i32_w]
           rfl
          refine pQ 14 60 16 32767 ?_
          refine pQ 15 61 16 65535 ?_
          refine done_ (done_of HT_.out zk) ?_
          try go_wp2
          go_ret2
          exact ⟨zE, zB HB⟩
         ·rw [if_neg c21] at H
          have c21b0 := decide_eq_false c21
          clear c21
          have H' := aM H
          clear H
          have qi := zc4 qA.out
          have qj := fun i_ : Nat => blk_frozen qA.out i_
          try go_wp2
          have n0_ := aM (blk_drew qA.out)
          have n1_ := aM (below_drew1 HB.out)
          clear qA
          clear HB
          have qA := n0_
          have HB := n1_
          clear n0_ n1_
          have p829 : 0 ≤ (qH : Int) := of_decide_eq_true za
          have q829 : qH < (qD.length : Int) := of_decide_eq_true za
          obtain ⟨ad829, e829, hx829_0⟩ := Kd.at_int qQ.out qH p829 q829
          have hw829_0 := hx829_0
          cases e829
          replace hx829_0 := (HB.out.cell (World.block_lt_of_cell? w _ hx829_0)).trans hx829_0
          replace p829 := eq_true p829
          replace q829 := eq_true q829
          have p830 : 0 ≤ (qH : Int) := of_decide_eq_true za
          have q830 : qH < (qD.length : Int) := of_decide_eq_true za
          obtain ⟨ad830, e830, hx830_0⟩ := Kd.at_int qQ.out qH p830 q830
          have hw830_0 := hx830_0
          obtain rfl : ad829 = ad830 := (by injection e830)
          replace hx830_0 := (HB.out.cell (World.block_lt_of_cell? w _ hx830_0)).trans hx830_0
          replace p830 := eq_true p830
          replace q830 := eq_true q830
          refine start_ (n := 16) (S := fun w' => w'.cell? ⟨qG, 0, none⟩ = some (.int .i64 qF) ∧ w'.cell? ⟨qG, 1, none⟩ = some (.int .i64 qE) ∧ w'.cell? ⟨qG, 2, none⟩ = some (.slice qO qB.length qM) ∧ w'.cell? ⟨qG, 3, none⟩ = some (.slice (some ad829) qD.length qN) ∧ w'.cell? (ad829.add (qH).toNat) = some (.int .i64 (rd qD qH)) ∧ w'.cell? (ad829.add (qH).toNat) = some (.int .i64 (rd qD qH))) (ds := []) (bs 16 0) zk rfl rfl ⟨(blk_cell qA.out 0).trans rfl, (blk_cell qA.out 1).trans rfl, (blk_cell qA.out 2).trans rfl, (blk_cell qA.out 3).trans rfl, ((HB.out.cell (World.block_lt_of_cell? w _ hw829_0)).trans hw829_0), ((HB.out.cell (World.block_lt_of_cell? w _ hw830_0)).trans hw830_0)⟩ (fun hHeld => ?_); refine with_tabW swageref08_Check.tab6 swageref08_Check.bits6 (fun HT_ HW_ => ?_)
          generalize wr.drew = w25 at qA HB hx829_0 hx830_0 hHeld ⊢
          refine pQ 0 46 16 1 ?_
          refine pQ 2 48 16 5 ?_
          refine take_ (i := 1) (N := some 47) (v := ?_) (a' := ?_) (bs 16 7) rfl rfl (take_ofW HT_.out HW_.out zk) (fun _ _ _ h => h) (Or.inl ⟨by rfl, ?_⟩) hHeld ?_ ?_
          rotate_left
          ·rintro w' ⟨s0, s1, s2, s3, s4, s5⟩
           go_simp
           with_reducible rfl
          rotate_left
          ·simp only [Act.put, List.setIfInBounds_toArray, List.set_cons_zero, List.set_cons_succ, i64_w, i32_w]
           rfl
          refine pQ 3 49 16 15 ?_
          refine take_ (i := 4) (N := some 50) (v := ?_) (a' := ?_) (bs 16 31) rfl rfl (take_ofW HT_.out HW_.out zk) (fun _ _ _ h => h) (Or.inl ⟨by rfl, ?_⟩) hHeld ?_ ?_
          rotate_left
          ·rintro w' ⟨s0, s1, s2, s3, s4, s5⟩
           go_simp
           with_reducible rfl
          rotate_left
          ·simp only [Act.put, List.setIfInBounds_toArray, List.set_cons_zero, List.set_cons_succ, i64_w, i32_w]
           rfl
          refine pQ 5 51 16 63 ?_
          refine pQ 6 52 16 127 ?_
          refine pQ 7 53 16 255 ?_
          refine pQ 9 55 16 767 ?_
          refine pQ 12 58 16 4863 ?_
          refine take_ (i := 8) (N := some 54) (v := ?_) (a' := ?_) (bs 16 5119) rfl rfl (take_ofW HT_.out HW_.out zk) (fun _ _ _ h => h) (Or.inl ⟨by rfl, ?_⟩) hHeld ?_ ?_
          rotate_left
          ·rintro w' ⟨s0, s1, s2, s3, s4, s5⟩
           go_simp
           with_reducible rfl
          rotate_left
          ·simp only [Act.put, List.setIfInBounds_toArray, List.set_cons_zero, List.set_cons_succ, i64_w, i32_w]
           rfl
          refine pQ 10 56 16 6143 ?_
          refine take_ (i := 11) (N := some 57) (v := ?_) (a' := ?_) (bs 16 8191) rfl rfl (take_ofW HT_.out HW_.out zk) (fun _ _ _ h => h) (Or.inl ⟨by rfl, ?_⟩) hHeld ?_ ?_
          rotate_left
          ·rintro w' ⟨s0, s1, s2, s3, s4, s5⟩
           go_simp
           with_reducible rfl
          rotate_left
          ·simp only [Act.put, List.setIfInBounds_toArray, List.set_cons_zero, List.set_cons_succ, i64_w, i32_w]
           rfl
          refine take_ (i := 13) (N := some 59) (v := ?_) (a' := ?_) (bs 16 16383) rfl rfl (take_ofW HT_.out HW_.out zk) (fun _ _ _ h => h) (Or.inl ⟨by rfl, ?_⟩) hHeld ?_ ?_
          rotate_left
          ·rintro w' ⟨s0, s1, s2, s3, s4, s5⟩
           go_simp
           with_reducible rfl
          rotate_left
          ·simp only [Act.put, List.setIfInBounds_toArray, List.set_cons_zero, List.set_cons_succ, i64_w, i32_w]
           rfl
          refine pQ 14 60 16 32767 ?_
          refine pQ 15 61 16 65535 ?_
          refine done_ (done_of HT_.out zk) ?_
          try go_wp2
          go_roundg k2
          case measure => have := HJ1.out; have := HK2.out; omega
          case rel => exact ⟨(wrap64 (qH + 1)), zT, H', ⟨by have := HJ1.out; have := HK2.out; omega⟩, ⟨zb qA⟩, ⟨zB HB⟩⟩
       ·rw [if_neg c17] at H
        exact absurd H (by simp)
      ·rw [if_neg c16] at H
       have c16b0 := decide_eq_false c16
       clear c16
       have H' := aM H
       clear H
       have qk := zc4 qA.out
       have ql := fun i_ : Nat => blk_frozen qA.out i_
       go_wp2
       go_loopg [5] k2 (fun kq v5 w' => ∃ (qC : Int), v5 = .int .i64 qC ∧ Aside0 (swageref08_Check.l1 kq qC qF qE qB qD = some (r1, r2)) ∧ Aside0 (kq ≤ k2) ∧ Aside0 (w'.heap[qG]? = some (.cells #[.int .i64 qF, .int .i64 qE, (.slice qO qB.length qM), (.slice qP qD.length qN)] 26 (0, 0))) ∧ Aside0 (Below w.heap.size w w'))
       case atStart => exact ⟨(0), zT, H', ⟨Nat.le_refl _⟩, ⟨zb qA⟩, ⟨zB HB⟩⟩
       case round =>
        clear H'
        try clear c15
        try clear c16
        obtain ⟨qC, rfl, HA, HK3, qA, HB⟩ := hrel
        cases gk with
        | zero => exact absurd HA.out (by simp [swageref08_Check.l1])
        | succ k3 =>
         have H := HA.out
         clear HA
         simp only [swageref08_Check.l1] at H
         by_cases c27 : qC < (qB.length : Int)
         ·rw [if_pos c27] at H
          have c27b0 := decide_eq_true c27
          clear c27
          by_cases c28 : 0 ≤ qC
          ·rw [if_pos c28] at H
           have c28b0 := decide_eq_true c28
           clear c28
           replace H := Option.bind_eq_some_iff.mp H
           obtain ⟨qS, A290, H⟩ := H
           replace H : (if qS = true then (swageref08_Check.l1 k3 (wrap64 (qC + 1)) qF qE qB qD) else (some (qC, true))) = some (r1, r2) := H
           have A29 := aM A290
           clear A290
           by_cases c30 : qS = true
           ·subst c30
            have H1 : (swageref08_Check.l1 k3 (wrap64 (qC + 1)) qF qE qB qD) = some (r1, r2) := by rw [if_pos rfl] at H; exact H
            clear H
            have H := H1
            clear H1
            have H' := aM H
            clear H
            have qm := zc4 qA.out
            have qn := fun i_ : Nat => blk_frozen qA.out i_
            try go_wp2
            have n0_ := aM (blk_drew qA.out)
            have n1_ := aM (below_drew1 HB.out)
            clear qA
            clear HB
            have qA := n0_
            have HB := n1_
            clear n0_ n1_
            have p831 : 0 ≤ (qC : Int) := of_decide_eq_true za
            have q831 : qC < (qB.length : Int) := of_decide_eq_true za
            obtain ⟨ad831, e831, hx831_0, hx831_1, hx831_2, hx831_3, hx831_4⟩ := at_T63 qX.out qC p831 q831
            have hw831_4 := hx831_4
            have hw831_3 := hx831_3
            have hw831_2 := hx831_2
            have hw831_1 := hx831_1
            have hw831_0 := hx831_0
            cases e831
            replace hx831_0 := (HB.out.cell (World.block_lt_of_cell? w _ hx831_0)).trans hx831_0
            replace hx831_1 := (HB.out.cell (World.block_lt_of_cell? w _ hx831_1)).trans hx831_1
            replace hx831_2 := (HB.out.cell (World.block_lt_of_cell? w _ hx831_2)).trans hx831_2
            replace hx831_3 := (HB.out.cell (World.block_lt_of_cell? w _ hx831_3)).trans hx831_3
            replace hx831_4 := (HB.out.cell (World.block_lt_of_cell? w _ hx831_4)).trans hx831_4
            replace p831 := eq_true p831
            replace q831 := eq_true q831
            refine start_ (n := 9) (S := fun w' => w'.cell? ⟨qG, 0, none⟩ = some (.int .i64 qF) ∧ w'.cell? ⟨qG, 1, none⟩ = some (.int .i64 qE) ∧ w'.cell? ⟨qG, 2, none⟩ = some (.slice (some ad831) qB.length qM) ∧ w'.cell? ⟨qG, 3, none⟩ = some (.slice qP qD.length qN) ∧ w'.cell? (ad831.add ((qC).toNat * 5)) = some (.int .i64 ((rd_T63 qB qC).f0)) ∧ w'.cell? ⟨(ad831.add ((qC).toNat * 5)).block, (ad831.add ((qC).toNat * 5)).off + 1, none⟩ = some (.int .i64 ((rd_T63 qB qC).f1)) ∧ w'.cell? ⟨(ad831.add ((qC).toNat * 5)).block, (ad831.add ((qC).toNat * 5)).off + 2, none⟩ = some (.int .i64 ((rd_T63 qB qC).f2)) ∧ w'.cell? ⟨(ad831.add ((qC).toNat * 5)).block, (ad831.add ((qC).toNat * 5)).off + 3, none⟩ = some (.int .i64 ((rd_T63 qB qC).f3)) ∧ w'.cell? ⟨(ad831.add ((qC).toNat * 5)).block, (ad831.add ((qC).toNat * 5)).off + 4, none⟩ = some (.int .i64 ((rd_T63 qB qC).f4))) (ds := []) (bs 9 0) zk rfl rfl ⟨(blk_cell qA.out 0).trans rfl, (blk_cell qA.out 1).trans rfl, (blk_cell qA.out 2).trans rfl, (blk_cell qA.out 3).trans rfl, ((HB.out.cell (World.block_lt_of_cell? w _ hw831_0)).trans hw831_0), ((HB.out.cell (World.block_lt_of_cell? w _ hw831_1)).trans hw831_1), ((HB.out.cell (World.block_lt_of_cell? w _ hw831_2)).trans hw831_2), ((HB.out.cell (World.block_lt_of_cell? w _ hw831_3)).trans hw831_3), ((HB.out.cell (World.block_lt_of_cell? w _ hw831_4)).trans hw831_4)⟩ (fun hHeld => ?_); refine with_tabW swageref08_Check.tab11 swageref08_Check.bits11 (fun HT_ HW_ => ?_)
            generalize wr.drew = w32 at qA HB hx831_0 hx831_1 hx831_2 hx831_3 hx831_4 hHeld ⊢
            refine pQ 0 69 9 1 ?_
            refine pQ 2 71 9 5 ?_
            refine pQ 5 74 9 37 ?_
            refine take_ (i := 1) (N := some 70) (v := ?_) (a' := ?_) (bs 9 39) rfl rfl (take_ofW HT_.out HW_.out zk) (fun _ _ _ h => h) (Or.inl ⟨by rfl, ?_⟩) hHeld ?_ ?_
            rotate_left
            ·rintro w' ⟨s0, s1, s2, s3, s4, s5, s6, s7, s8⟩
             go_simp
             with_reducible rfl
            rotate_left
            ·simp only [Act.put, List.setIfInBounds_toArray, List.set_cons_zero, List.set_cons_succ, i64_w, i32_w]
             rfl
            refine pQ 3 72 9 47 ?_
            refine take_ (i := 4) (N := some 73) (v := ?_) (a' := ?_) (bs 9 63) rfl rfl (take_ofW HT_.out HW_.out zk) (fun _ _ _ h => h) (Or.inl ⟨by rfl, ?_⟩) hHeld ?_ ?_
            rotate_left
            ·rintro w' ⟨s0, s1, s2, s3, s4, s5, s6, s7, s8⟩
             go_simp
             with_reducible rfl
            rotate_left
            ·simp only [Act.put, List.setIfInBounds_toArray, List.set_cons_zero, List.set_cons_succ, i64_w, i32_w]
             rfl
            refine take_ (i := 6) (N := some 75) (v := ?_) (a' := ?_) (bs 9 127) rfl rfl (take_ofW HT_.out HW_.out zk) (fun _ _ _ h => h) (Or.inl ⟨by rfl, ?_⟩) hHeld ?_ ?_
            rotate_left
            ·rintro w' ⟨s0, s1, s2, s3, s4, s5, s6, s7, s8⟩
             go_simp
             with_reducible rfl
            rotate_left
            ·simp only [Act.put, List.setIfInBounds_toArray, List.set_cons_zero, List.set_cons_succ, i64_w, i32_w]
             rfl
            refine one_ (i := 7) (N := some 76) (bs 9 255) rfl rfl (one_of HT_.out zk) (by decide) (fun K hK => ?_)
            refine goes_ Try.func68 zk rfl #[.agg #[.int .i64 ((rd_T63 qB qC).f0), .int .i64 ((rd_T63 qB qC).f1), .int .i64 ((rd_T63 qB qC).f2), .int .i64 ((rd_T63 qB qC).f3), .int .i64 ((rd_T63 qB qC).f4)], .int .i64 qE] (by rfl) rfl rfl zA ?_
            with_reducible refine (swageref08_May.calls k3 ((rd_T63 qB qC).f0) ((rd_T63 qB qC).f1) ((rd_T63 qB qC).f2) ((rd_T63 qB qC).f3) ((rd_T63 qB qC).f4) qE true _ A29.out).mono ?_
            rintro e w33 ⟨rfl, hb⟩
            refine ⟨_, rfl, ?_⟩
            have n0_ := aM (blk_below (g := qG) (lK qA) hb)
            have n1_ := aM (below_step (zB HB) hb)
            clear qA
            clear HB
            have qA := n0_
            have HB := n1_
            clear n0_ n1_
            (try clear hb)
            (try clear hb2)
            (try clear hk)
            (try clear hi)
            refine hK.out _ _ ⟨(blk_cell qA.out 0).trans rfl, (blk_cell qA.out 1).trans rfl, (blk_cell qA.out 2).trans rfl, (blk_cell qA.out 3).trans rfl, ((HB.out.cell (World.block_lt_of_cell? w _ hw831_0)).trans hw831_0), ((HB.out.cell (World.block_lt_of_cell? w _ hw831_1)).trans hw831_1), ((HB.out.cell (World.block_lt_of_cell? w _ hw831_2)).trans hw831_2), ((HB.out.cell (World.block_lt_of_cell? w _ hw831_3)).trans hw831_3), ((HB.out.cell (World.block_lt_of_cell? w _ hw831_4)).trans hw831_4)⟩ (fun hHeld => ?_)
            clear hK K
            refine norm_ (a' := ?_) ?_ ?_
            rotate_left
            ·show Act.put _ (some 76) _ = _
             simp only [Act.put, List.setIfInBounds_toArray, List.set_cons_zero, List.set_cons_succ, i64_w, i32_w]
             rfl
            refine pQ 8 77 9 511 ?_
            refine done_ (done_of HT_.out zk) ?_
            try go_wp2
            go_roundg k3
            case measure => have := HJ1.out; have := HK2.out; have := HK3.out; omega
            case rel => exact ⟨(wrap64 (qC + 1)), zT, H', ⟨by have := HJ1.out; have := HK2.out; have := HK3.out; omega⟩, ⟨zb qA⟩, ⟨zB HB⟩⟩
           ·replace c30 := Bool.eq_false_iff.mpr c30
            subst c30
            have H1 : (some (qC, true)) = some (r1, r2) := by rw [if_neg (show ¬ (false = true) by decide)] at H; exact H
            clear H
            have H := H1
            clear H1
            simp only [Option.some.injEq, Prod.mk.injEq] at H
            obtain ⟨rfl, rfl⟩ := H
            have qo := zc4 qA.out
            have qp := fun i_ : Nat => blk_frozen qA.out i_
            try go_wp2
            have n0_ := aM (blk_drew qA.out)
            have n1_ := aM (below_drew1 HB.out)
            clear qA
            clear HB
            have qA := n0_
            have HB := n1_
            clear n0_ n1_
            have p831 : 0 ≤ (qC : Int) := of_decide_eq_true za
            have q831 : qC < (qB.length : Int) := of_decide_eq_true za
            obtain ⟨ad831, e831, hx831_0, hx831_1, hx831_2, hx831_3, hx831_4⟩ := at_T63 qX.out qC p831 q831
            have hw831_4 := hx831_4
            have hw831_3 := hx831_3
            have hw831_2 := hx831_2
            have hw831_1 := hx831_1
            have hw831_0 := hx831_0
            cases e831
            replace hx831_0 := (HB.out.cell (World.block_lt_of_cell? w _ hx831_0)).trans hx831_0
            replace hx831_1 := (HB.out.cell (World.block_lt_of_cell? w _ hx831_1)).trans hx831_1
            replace hx831_2 := (HB.out.cell (World.block_lt_of_cell? w _ hx831_2)).trans hx831_2
            replace hx831_3 := (HB.out.cell (World.block_lt_of_cell? w _ hx831_3)).trans hx831_3
            replace hx831_4 := (HB.out.cell (World.block_lt_of_cell? w _ hx831_4)).trans hx831_4
            replace p831 := eq_true p831
            replace q831 := eq_true q831
            refine start_ (n := 9) (S := fun w' => w'.cell? ⟨qG, 0, none⟩ = some (.int .i64 qF) ∧ w'.cell? ⟨qG, 1, none⟩ = some (.int .i64 qE) ∧ w'.cell? ⟨qG, 2, none⟩ = some (.slice (some ad831) qB.length qM) ∧ w'.cell? ⟨qG, 3, none⟩ = some (.slice qP qD.length qN) ∧ w'.cell? (ad831.add ((qC).toNat * 5)) = some (.int .i64 ((rd_T63 qB qC).f0)) ∧ w'.cell? ⟨(ad831.add ((qC).toNat * 5)).block, (ad831.add ((qC).toNat * 5)).off + 1, none⟩ = some (.int .i64 ((rd_T63 qB qC).f1)) ∧ w'.cell? ⟨(ad831.add ((qC).toNat * 5)).block, (ad831.add ((qC).toNat * 5)).off + 2, none⟩ = some (.int .i64 ((rd_T63 qB qC).f2)) ∧ w'.cell? ⟨(ad831.add ((qC).toNat * 5)).block, (ad831.add ((qC).toNat * 5)).off + 3, none⟩ = some (.int .i64 ((rd_T63 qB qC).f3)) ∧ w'.cell? ⟨(ad831.add ((qC).toNat * 5)).block, (ad831.add ((qC).toNat * 5)).off + 4, none⟩ = some (.int .i64 ((rd_T63 qB qC).f4))) (ds := []) (bs 9 0) zk rfl rfl ⟨(blk_cell qA.out 0).trans rfl, (blk_cell qA.out 1).trans rfl, (blk_cell qA.out 2).trans rfl, (blk_cell qA.out 3).trans rfl, ((HB.out.cell (World.block_lt_of_cell? w _ hw831_0)).trans hw831_0), ((HB.out.cell (World.block_lt_of_cell? w _ hw831_1)).trans hw831_1), ((HB.out.cell (World.block_lt_of_cell? w _ hw831_2)).trans hw831_2), ((HB.out.cell (World.block_lt_of_cell? w _ hw831_3)).trans hw831_3), ((HB.out.cell (World.block_lt_of_cell? w _ hw831_4)).trans hw831_4)⟩ (fun hHeld => ?_); refine with_tabW swageref08_Check.tab11 swageref08_Check.bits11 (fun HT_ HW_ => ?_)
            generalize wr.drew = w35 at qA HB hx831_0 hx831_1 hx831_2 hx831_3 hx831_4 hHeld ⊢
            refine pQ 0 69 9 1 ?_
            refine pQ 2 71 9 5 ?_
            refine pQ 5 74 9 37 ?_
            refine take_ (i := 1) (N := some 70) (v := ?_) (a' := ?_) (bs 9 39) rfl rfl (take_ofW HT_.out HW_.out zk) (fun _ _ _ h => h) (Or.inl ⟨by rfl, ?_⟩) hHeld ?_ ?_
            rotate_left
            ·rintro w' ⟨s0, s1, s2, s3, s4, s5, s6, s7, s8⟩
             go_simp
             with_reducible rfl
            rotate_left
            ·simp only [Act.put, List.setIfInBounds_toArray, List.set_cons_zero, List.set_cons_succ, i64_w, i32_w]
             rfl
            refine pQ 3 72 9 47 ?_
            refine take_ (i := 4) (N := some 73) (v := ?_) (a' := ?_) (bs 9 63) rfl rfl (take_ofW HT_.out HW_.out zk) (fun _ _ _ h => h) (Or.inl ⟨by rfl, ?_⟩) hHeld ?_ ?_
            rotate_left
            ·rintro w' ⟨s0, s1, s2, s3, s4, s5, s6, s7, s8⟩
             go_simp
             with_reducible rfl
            rotate_left
            ·simp only [Act.put, List.setIfInBounds_toArray, List.set_cons_zero, List.set_cons_succ, i64_w, i32_w]
             rfl
            refine take_ (i := 6) (N := some 75) (v := ?_) (a' := ?_) (bs 9 127) rfl rfl (take_ofW HT_.out HW_.out zk) (fun _ _ _ h => h) (Or.inl ⟨by rfl, ?_⟩) hHeld ?_ ?_
            rotate_left
            ·rintro w' ⟨s0, s1, s2, s3, s4, s5, s6, s7, s8⟩
             go_simp
             with_reducible rfl
            rotate_left
            ·simp only [Act.put, List.setIfInBounds_toArray, List.set_cons_zero, List.set_cons_succ, i64_w, i32_w]
             rfl
            refine one_ (i := 7) (N := some 76) (bs 9 255) rfl rfl (one_of HT_.out zk) (by decide) (fun K hK => ?_)
            refine goes_ Try.func68 zk rfl #[.agg #[.int .i64 ((rd_T63 qB qC).f0), .int .i64 ((rd_T63 qB qC).f1), .int .i64 ((rd_T63 qB qC).f2), .int .i64 ((rd_T63 qB qC).f3), .int .i64 ((rd_T63 qB qC).f4)], .int .i64 qE] (by rfl) rfl rfl zA ?_
            with_reducible refine (swageref08_May.calls k3 ((rd_T63 qB qC).f0) ((rd_T63 qB qC).f1) ((rd_T63 qB qC).f2) ((rd_T63 qB qC).f3) ((rd_T63 qB qC).f4) qE false _ A29.out).mono ?_
            rintro e w36 ⟨rfl, hb⟩
            refine ⟨_, rfl, ?_⟩
            have n0_ := aM (blk_below (g := qG) (lK qA) hb)
            have n1_ := aM (below_step (zB HB) hb)
            clear qA
            clear HB
            have qA := n0_
            have HB := n1_
            clear n0_ n1_
            (try clear hb)
            (try clear hb2)
            (try clear hk)
            (try clear hi)
            refine hK.out _ _ ⟨(blk_cell qA.out 0).trans rfl, (blk_cell qA.out 1).trans rfl, (blk_cell qA.out 2).trans rfl, (blk_cell qA.out 3).trans rfl, ((HB.out.cell (World.block_lt_of_cell? w _ hw831_0)).trans hw831_0), ((HB.out.cell (World.block_lt_of_cell? w _ hw831_1)).trans hw831_1), ((HB.out.cell (World.block_lt_of_cell? w _ hw831_2)).trans hw831_2), ((HB.out.cell (World.block_lt_of_cell? w _ hw831_3)).trans hw831_3), ((HB.out.cell (World.block_lt_of_cell? w _ hw831_4)).trans hw831_4)⟩ (fun hHeld => ?_)
            clear hK K
            refine norm_ (a' := ?_) ?_ ?_
            rotate_left
            ·show Act.put _ (some 76) _ = _
             simp only [Act.put, List.setIfInBounds_toArray, List.set_cons_zero, List.set_cons_succ, i64_w, i32_w]
             rfl
            refine pQ 8 77 9 511 ?_
            refine done_ (done_of HT_.out zk) ?_
            try go_wp2
            go_ret2
            exact ⟨zE, zB HB⟩
          ·rw [if_neg c28] at H
           exact absurd H (by simp)
         ·rw [if_neg c27] at H
          have c27b0 := decide_eq_false c27
          clear c27
          simp only [Option.some.injEq, Prod.mk.injEq] at H
          obtain ⟨rfl, rfl⟩ := H
          have qq := zc4 qA.out
          have qr := fun i_ : Nat => blk_frozen qA.out i_
          go_wp2
          go_ret2
          exact ⟨zE, zB HB⟩

end Go.Proofs.Ytccbdcbeinkjgaa.XA
end
