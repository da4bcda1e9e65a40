/- Part 17 of the proof of the law CodeEncodes for every input: words, walks and plain laws. No condition. -/
import Derived.Test.YtccbdcbeinkjgaaKCodeEncodes16
section
namespace Go.Proofs.Ytccbdcbeinkjgaa.XA
open Go.Proofs.Ytccbdcbeinkjgaa.Lift Go.RowKit Go.Proofs.YtccbdcbeinkjgaaW.PrintWords Go.Proofs.YtccbdcbeinkjgaaW.PrintLast Go.Proofs.YtccbdcbeinkjgaaW.PrintMore
attribute [local go_sem] max2_int min2_int max_two min_two max_three min_three max_four min_four
set_option linter.unusedVariables false
set_option linter.unusedSimpArgs false

/-! ### swageref08_Right: function 41 -/
def swageref08_Right.f (k : Nat) (qC : Int) (qD : Int) (qA : List (S63)) (qB : List Int) : Option (Bool) := (swageref08_Check.f k qC qD qA qB).bind fun bt834 => (some (!bt834.2))
theorem swageref08_Right.mono : ∀ a0 a1 a2 a3 k, LeO (swageref08_Right.f k a0 a1 a2 a3) (swageref08_Right.f (k + 1) a0 a1 a2 a3) := by
 intro a0 a1 a2 a3 k
 unfold swageref08_Right.f
 have im0 := @swageref08_Check.mono; exact zM
set_option maxHeartbeats 8000000 in
set_option maxRecDepth 100000 in
theorem swageref08_Right.calls (k : Nat) (qC : Int) (qD : Int) (qF : Option Addr) (qG : Nat) (qA : List (S63)) (qH : Option Addr) (qI : Nat) (qB : List Int) (r : Bool) (w : World) (qK : Kd.C k63 w qF qA.length qA) (qL : qA.length ≤ qG) (qM : Kd.C (Kd.int .i64) w qH qB.length qB) (qN : qB.length ≤ qI) (h : swageref08_Right.f k qC qD qA qB = some r) :
  Calls Try.prog 41 #[.agg #[.int .i64 qC, .int .i64 qD, .slice qF qA.length qG, .slice qH qB.length qI]] w fun e w' => e = .returned (.bool r) ∧ Below w.heap.size w w' := by
 have hu26 := Try.underlying26
 have qP := aM qK
 have qQ := aM qL
 clear qK qL
 have qR := aM qM
 have qS := aM qN
 clear qM qN
 have HB := aM (Below.refl w.heap.size w)
 have H : ((swageref08_Check.f k qC qD qA qB).bind fun bt834 => (some (!bt834.2))) = some r := h
 clear h
 replace H := Option.bind_eq_some_iff.mp H
 obtain ⟨⟨qT, qO⟩, A20, H⟩ := H
 replace H : (some (!qO)) = some r := H
 have A2 := aM A20
 clear A20
 obtain rfl := Option.some.inj H
 go_enter Try.func41, Try.ntmps41
 go_wp2_with (first | ((with_reducible refine gate_dst (N := 1) rfl ?_); refine box_event rfl (N := 1) rfl (cs := #[.int .i64 qC, .int .i64 qD, .slice qF qA.length qG, .slice qH qB.length qI]) (t := 26) zG ?_; intro qJ hg w3 hbox hb; have qE := aM (hbox); have qW := aM ((by rw [hg]; exact (below_size (lB HB)) : w.heap.size ≤ qJ)); have qX := aM ((by rw [hg]; exact (below_size (lB HB)) : w.heap.size ≤ qJ)); replace HB := aM (below_step (lB HB) hb); clear hb hbox hg; have qU := zc4 qE.out; have qV := fun i_ : Nat => blk_frozen qE.out i_) | ((with_reducible refine gate_callee (f := 59) rfl ?_); refine goesL_ (some 7) rfl rfl Try.func59 zk rfl #[.agg #[.int .i64 qC, .int .i64 qD, .slice qF qA.length qG, .slice qH qB.length qI]] rfl zA ?_; (with_reducible refine (swageref08_Check.calls k qC qD _ _ qA _ _ qB qT qO _ ?side1 ?side2 ?side3 ?side4 A2.out).mono ?_); (case side1 => refine lY ?_; exact (Kd.C_below qP.out HB.out)); (case side2 => exact qQ.out); (case side3 => refine lY ?_; exact (Kd.C_below qR.out HB.out)); (case side4 => exact qS.out); rintro e w5 ⟨rfl, hb⟩; refine ⟨_, rfl, ?_⟩; replace qE := aM (blk_below (g := qJ) (lK qE) hb); replace HB := aM (below_step (zB HB) hb); (try clear hb)))
 go_ret
 exact ⟨zE, zB HB⟩

end Go.Proofs.Ytccbdcbeinkjgaa.XA
end

section
namespace Go.Proofs.Ytccbdcbeinkjgaa.XA
open Go.Proofs.Ytccbdcbeinkjgaa.Lift Go.RowKit Go.Proofs.YtccbdcbeinkjgaaW.PrintWords Go.Proofs.YtccbdcbeinkjgaaW.PrintLast Go.Proofs.YtccbdcbeinkjgaaW.PrintMore
attribute [local go_sem] max2_int min2_int max_two min_two max_three min_three max_four min_four
set_option linter.unusedVariables false
set_option linter.unusedSimpArgs false

/-! ### swageref17_May: function 21 -/
mutual
def swageref17_May.j0 : Nat → Bool → Int → Int → List (S48) → Int → Int → List (S63) → List Int → Int → Int → List (S63) → List Int → Int → Int → List (S63) → List Int → Option (Int)
 | 0, _, _, _, _, _, _, _, _, _, _, _, _, _, _, _, _ => none
 | k + 1, x27, qr, qs, qT, qZ, qa, qb, qc, qd, qe, qf, qg, qh, qi, qj, qk => if x27 = true then (some 2) else (swageref17_May.l0 k 0 qr qs qT qZ qa qb qc qd qe qf qg qh qi qj qk)
def swageref17_May.l0 : Nat → Int → Int → Int → List (S48) → Int → Int → List (S63) → List Int → Int → Int → List (S63) → List Int → Int → Int → List (S63) → List Int → Option (Int)
 | 0, _, _, _, _, _, _, _, _, _, _, _, _, _, _, _, _ => none
 | k + 1, x3, qr, qs, qT, qZ, qa, qb, qc, qd, qe, qf, qg, qh, qi, qj, qk => if x3 < (qT.length : Int) then (if 0 ≤ x3 then ((swageref06_In.f ((rd_T48 qT x3).f0) ((rd_T48 qT x3).f1)).bind fun q4 => (if q4 = true then (swageref17_May.l0 k (wrap64 (x3 + 1)) qr qs qT qZ qa qb qc qd qe qf qg qh qi qj qk) else (some 2))) else (none)) else ((swageref08_Right.f k qZ qa qb qc).bind fun q5 => (if q5 = true then ((swageref08_Right.f k qd qe qf qg).bind fun qY => (if qY = true then ((swageref08_Right.f k qh qi qj qk).bind fun qS => (if qS = true then (some 0) else (some 80))) else (some 80))) else (some 80)))
end
def swageref17_May.f (k : Nat) (qM : Int) (qN : Int) (qB : List (S48)) (qJ : Int) (qK : Int) (qH : List (S63)) (qI : List Int) (qO : Int) (qP : Int) (qL : List (S63)) (qE : List Int) (qF : Int) (qG : Int) (qC : List (S63)) (qD : List Int) : Option (Int) := if qM < 1 then (swageref17_May.j0 k true qM qN qB qJ qK qH qI qO qP qL qE qF qG qC qD) else (if qN < 1 then (swageref17_May.j0 k true qM qN qB qJ qK qH qI qO qP qL qE qF qG qC qD) else (if qM > 8 then (swageref17_May.j0 k true qM qN qB qJ qK qH qI qO qP qL qE qF qG qC qD) else (if qN > 8 then (swageref17_May.j0 k true qM qN qB qJ qK qH qI qO qP qL qE qF qG qC qD) else (swageref17_May.j0 k (decide (255 < qB.length)) qM qN qB qJ qK qH qI qO qP qL qE qF qG qC qD))))
theorem swageref17_May.mono_l : ∀ k, (∀ y0 y1 y2 y3 y4 y5 y6 y7 y8 y9 y10 y11 y12 y13 y14 y15, LeO (swageref17_May.j0 k y0 y1 y2 y3 y4 y5 y6 y7 y8 y9 y10 y11 y12 y13 y14 y15) (swageref17_May.j0 (k + 1) y0 y1 y2 y3 y4 y5 y6 y7 y8 y9 y10 y11 y12 y13 y14 y15)) ∧ (∀ y0 y1 y2 y3 y4 y5 y6 y7 y8 y9 y10 y11 y12 y13 y14 y15, LeO (swageref17_May.l0 k y0 y1 y2 y3 y4 y5 y6 y7 y8 y9 y10 y11 y12 y13 y14 y15) (swageref17_May.l0 (k + 1) y0 y1 y2 y3 y4 y5 y6 y7 y8 y9 y10 y11 y12 y13 y14 y15))
 | 0 => ⟨fun _ _ _ _ _ _ _ _ _ _ _ _ _ _ _ _ r h => by simp [swageref17_May.j0] at h, fun _ _ _ _ _ _ _ _ _ _ _ _ _ _ _ _ r h => by simp [swageref17_May.l0] at h⟩
 | k + 1 => by
  obtain ⟨ih0, ih1⟩ := swageref17_May.mono_l k
  refine ⟨?_, ?_⟩
  ·intro y0 y1 y2 y3 y4 y5 y6 y7 y8 y9 y10 y11 y12 y13 y14 y15
   unfold swageref17_May.j0
   have im0 := @swageref08_Right.mono; exact zM
  ·intro y0 y1 y2 y3 y4 y5 y6 y7 y8 y9 y10 y11 y12 y13 y14 y15
   unfold swageref17_May.l0
   have im0 := @swageref08_Right.mono; exact zM
theorem swageref17_May.mono : ∀ a0 a1 a2 a3 a4 a5 a6 a7 a8 a9 a10 a11 a12 a13 a14 k, LeO (swageref17_May.f k a0 a1 a2 a3 a4 a5 a6 a7 a8 a9 a10 a11 a12 a13 a14) (swageref17_May.f (k + 1) a0 a1 a2 a3 a4 a5 a6 a7 a8 a9 a10 a11 a12 a13 a14) := by
 intro a0 a1 a2 a3 a4 a5 a6 a7 a8 a9 a10 a11 a12 a13 a14 k
 obtain ⟨ih0, ih1⟩ := swageref17_May.mono_l k
 unfold swageref17_May.f
 have im0 := @swageref08_Right.mono; exact zM
set_option maxHeartbeats 8000000 in
set_option maxRecDepth 100000 in
theorem swageref17_May.calls (k : Nat) (qM : Int) (qN : Int) (qy : Option Addr) (qz : Nat) (qB : List (S48)) (qJ : Int) (qK : Int) (qU : Option Addr) (qV : Nat) (qH : List (S63)) (qW : Option Addr) (qX : Nat) (qI : List Int) (qO : Int) (qP : Int) (q0 : Option Addr) (q1 : Nat) (qL : List (S63)) (ql : Option Addr) (qm : Nat) (qE : List Int) (qF : Int) (qG : Int) (qn : Option Addr) (qo : Nat) (qC : List (S63)) (qp : Option Addr) (qq : Nat) (qD : List Int) (r : Int) (w : World) (jI : Kd.C k48 w qy qB.length qB) (jJ : qB.length ≤ qz) (jK : Kd.C k63 w qU qH.length qH) (jL : qH.length ≤ qV) (jM : Kd.C (Kd.int .i64) w qW qI.length qI) (jN : qI.length ≤ qX) (jO : Kd.C k63 w q0 qL.length qL) (jP : qL.length ≤ q1) (q8 : Kd.C (Kd.int .i64) w ql qE.length qE) (q9 : qE.length ≤ qm) (jA : Kd.C k63 w qn qC.length qC) (jB : qC.length ≤ qo) (jC : Kd.C (Kd.int .i64) w qp qD.length qD) (jD : qD.length ≤ qq) (h : swageref17_May.f k qM qN qB qJ qK qH qI qO qP qL qE qF qG qC qD = some r) :
  Calls Try.prog 21 #[.agg #[.int .i64 qM, .int .i64 qN, .slice qy qB.length qz, .int .i64 qJ, .int .i64 qK, .slice qU qH.length qV, .slice qW qI.length qX, .int .i64 qO, .int .i64 qP, .slice q0 qL.length q1, .slice ql qE.length qm, .int .i64 qF, .int .i64 qG, .slice qn qC.length qo, .slice qp qD.length qq]] w fun e w' => e = .returned (.int .i64 r) ∧ Below w.heap.size w w' := by
 have hu28 := Try.underlying28
 have hu48 := Try.underlying48
 have hu26 := Try.underlying26
 have jQ := aM jI
 have jx := aM jJ
 clear jI jJ
 have qt := aM jK
 have qu := aM jL
 clear jK jL
 have qv := aM jM
 have qw := aM jN
 clear jM jN
 have q6 := aM jO
 have q7 := aM jP
 clear jO jP
 have q2 := aM q8
 have q3 := aM q9
 clear q8 q9
 have jE := aM jA
 have jF := aM jB
 clear jA jB
 have jG := aM jC
 have jH := aM jD
 clear jC jD
 have HB := aM (Below.refl w.heap.size w)
 have H : (if qM < 1 then (swageref17_May.j0 k true qM qN qB qJ qK qH qI qO qP qL qE qF qG qC qD) else (if qN < 1 then (swageref17_May.j0 k true qM qN qB qJ qK qH qI qO qP qL qE qF qG qC qD) else (if qM > 8 then (swageref17_May.j0 k true qM qN qB qJ qK qH qI qO qP qL qE qF qG qC qD) else (if qN > 8 then (swageref17_May.j0 k true qM qN qB qJ qK qH qI qO qP qL qE qF qG qC qD) else (swageref17_May.j0 k (decide (255 < qB.length)) qM qN qB qJ qK qH qI qO qP qL qE qF qG qC qD))))) = some r := h
 clear h
 have HC2 := aM H
 clear H
 go_enter Try.func21, Try.ntmps21
 go_upto_region 1 with (first | ((with_reducible refine gate_dst (N := 1) rfl ?_); (try (refine gate_guard (by rfl) ?_; dsimp only)); refine box_event rfl (N := 1) rfl (cs := #[.int .i64 qM, .int .i64 qN, .slice qy qB.length qz, .int .i64 qJ, .int .i64 qK, .slice qU qH.length qV, .slice qW qI.length qX, .int .i64 qO, .int .i64 qP, .slice q0 qL.length q1, .slice ql qE.length qm, .int .i64 qF, .int .i64 qG, .slice qn qC.length qo, .slice qp qD.length qq]) (t := 28) zG ?_; intro qR hg w3 hbox hb; have qA := aM (hbox); have jy := aM ((by rw [hg]; exact (below_size (lB HB)) : w.heap.size ≤ qR)); have jz := aM ((by rw [hg]; exact (below_size (lB HB)) : w.heap.size ≤ qR)); replace HB := aM (below_step (lB HB) hb); clear hb hbox hg))
 (try simp only [Act.put, List.setIfInBounds_toArray, List.set_cons_zero, List.set_cons_succ])
 go_cut [27] (fun v27 wc => ∃ (kq : Nat) (qx : Bool), v27 = .bool qx ∧ Aside0 (swageref17_May.j0 kq qx qM qN qB qJ qK qH qI qO qP qL qE qF qG qC qD = some r) ∧ Aside0 (kq ≤ k) ∧ Aside0 (wc.heap[qR]? = some (.cells #[.int .i64 qM, .int .i64 qN, (.slice qy qB.length qz), .int .i64 qJ, .int .i64 qK, (.slice qU qH.length qV), (.slice qW qI.length qX), .int .i64 qO, .int .i64 qP, (.slice q0 qL.length q1), (.slice ql qE.length qm), .int .i64 qF, .int .i64 qG, (.slice qn qC.length qo), (.slice qp qD.length qq)] 28 (0, 0))) ∧ Aside0 (Below w.heap.size w wc))
 case first =>
  have H := HC2.out
  clear HC2
  by_cases c4 : qM < 1
  ·rw [if_pos c4] at H
   have c4b0 := decide_eq_true c4
   clear c4
   (first | rw [c4b0] | (simp only [i64_w, i32_w]; rw [c4b0]) | skip)
   have H' := aM H
   clear H
   have jr := zc15 qA.out
   have js := fun i_ : Nat => blk_frozen qA.out i_
   go_wp2
   go_meet
   case rel => exact ⟨_, (true), zT, H', ⟨zO⟩, ⟨zb qA⟩, ⟨zB HB⟩⟩
  ·rw [if_neg c4] at H
   have c4b0 := decide_eq_false c4
   clear c4
   (first | rw [c4b0] | (simp only [i64_w, i32_w]; rw [c4b0]) | skip)
   by_cases c6 : qN < 1
   ·rw [if_pos c6] at H
    have c6b0 := decide_eq_true c6
    clear c6
    have H' := aM H
    clear H
    have jt := zc15 qA.out
    have ju := fun i_ : Nat => blk_frozen qA.out i_
    go_wp2
    go_meet
    case rel => exact ⟨_, (true), zT, H', ⟨zO⟩, ⟨zb qA⟩, ⟨zB HB⟩⟩
   ·rw [if_neg c6] at H
    have c6b0 := decide_eq_false c6
    clear c6
    by_cases c8 : qM > 8
    ·rw [if_pos c8] at H
     have c8b0 := decide_eq_true c8
     clear c8
     have H' := aM H
     clear H
     have jv := zc15 qA.out
     have jw := fun i_ : Nat => blk_frozen qA.out i_
     go_wp2
     go_meet
     case rel => exact ⟨_, (true), zT, H', ⟨zO⟩, ⟨zb qA⟩, ⟨zB HB⟩⟩
    ·rw [if_neg c8] at H
     have c8b0 := decide_eq_false c8
     clear c8
     by_cases c10 : qN > 8
     ·rw [if_pos c10] at H
      have c10b0 := decide_eq_true c10
      clear c10
      have H' := aM H
      clear H
      have jR := zc15 qA.out
      have jS := fun i_ : Nat => blk_frozen qA.out i_
      go_wp2
      go_meet
      case rel => exact ⟨_, (true), zT, H', ⟨zO⟩, ⟨zb qA⟩, ⟨zB HB⟩⟩
     ·rw [if_neg c10] at H
      have c10b0 := decide_eq_false c10
      clear c10
      have H' := aM H
      clear H
      have jT := zc15 qA.out
      have jU := fun i_ : Nat => blk_frozen qA.out i_
      go_wp2
      go_meet
      case rel => exact ⟨_, (decide (255 < qB.length)), (by first | rfl | (simp; done) | (simp [*]; done) | (simp; omega)), H', ⟨zO⟩, ⟨zb qA⟩, ⟨zB HB⟩⟩
 case rest =>
  clear HC2
  obtain ⟨kq, qx, rfl, HA, HJ1, qA, HB⟩ := hcut
  cases kq with
  | zero => exact absurd HA.out (by simp [swageref17_May.j0])
  | succ kj1 =>
   have H := HA.out
   clear HA
   simp only [swageref17_May.j0] at H
   by_cases c13 : qx = true
   ·subst c13
    have H1 : (some 2) = some r := by rw [if_pos rfl] at H; exact H
    clear H
    have H := H1
    clear H1
    obtain rfl := Option.some.inj H
    go_wp2
    go_ret
    exact ⟨zE, zB HB⟩
   ·replace c13 := Bool.eq_false_iff.mpr c13
    subst c13
    have H1 : (swageref17_May.l0 kj1 0 qM qN qB qJ qK qH qI qO qP qL qE qF qG qC qD) = some r := by rw [if_neg (show ¬ (false = true) by decide)] at H; exact H
    clear H
    have H := H1
    clear H1
    have H' := aM H
    clear H
    go_wp2
    go_loopg [3] kj1 (fun kq v3 w' => ∃ (qQ : Int), v3 = .int .i64 qQ ∧ Aside0 (swageref17_May.l0 kq qQ qM qN qB qJ qK qH qI qO qP qL qE qF qG qC qD = some r) ∧ Aside0 (kq ≤ kj1) ∧ Aside0 (w'.heap[qR]? = some (.cells #[.int .i64 qM, .int .i64 qN, (.slice qy qB.length qz), .int .i64 qJ, .int .i64 qK, (.slice qU qH.length qV), (.slice qW qI.length qX), .int .i64 qO, .int .i64 qP, (.slice q0 qL.length q1), (.slice ql qE.length qm), .int .i64 qF, .int .i64 qG, (.slice qn qC.length qo), (.slice qp qD.length qq)] 28 (0, 0))) ∧ Aside0 (Below w.heap.size w w'))
    case atStart => exact ⟨(0), zT, H', ⟨Nat.le_refl _⟩, ⟨zb qA⟩, ⟨zB HB⟩⟩
    case round =>
     clear H'
     try clear c13
     obtain ⟨qQ, rfl, HA, HK2, qA, HB⟩ := hrel
     cases gk with
     | zero => exact absurd HA.out (by simp [swageref17_May.l0])
     | succ k2 =>
      have H := HA.out
      clear HA
      simp only [swageref17_May.l0] at H
      by_cases c14 : qQ < (qB.length : Int)
      ·rw [if_pos c14] at H
       have c14b0 := decide_eq_true c14
       clear c14
       by_cases c15 : 0 ≤ qQ
       ·rw [if_pos c15] at H
        have c15b0 := decide_eq_true c15
        clear c15
        replace H := Option.bind_eq_some_iff.mp H
        obtain ⟨q4, A160, H⟩ := H
        replace H : (if q4 = true then (swageref17_May.l0 k2 (wrap64 (qQ + 1)) qM qN qB qJ qK qH qI qO qP qL qE qF qG qC qD) else (some 2)) = some r := H
        have A16 := aM A160
        clear A160
        by_cases c17 : q4 = true
        ·subst c17
         have H1 : (swageref17_May.l0 k2 (wrap64 (qQ + 1)) qM qN qB qJ qK qH qI qO qP qL qE qF qG qC qD) = some r := by rw [if_pos rfl] at H; exact H
         clear H
         have H := H1
         clear H1
         have H' := aM H
         clear H
         have jV := zc15 qA.out
         have jW := fun i_ : Nat => blk_frozen qA.out i_
         have p837 : 0 ≤ (qQ : Int) := of_decide_eq_true za
         have q837 : qQ < (qB.length : Int) := of_decide_eq_true za
         obtain ⟨ad837, e837, hx837_0, hx837_1⟩ := at_T48 jQ.out qQ p837 q837
         cases e837
         replace hx837_0 := (HB.out.cell (World.block_lt_of_cell? w _ hx837_0)).trans hx837_0
         replace hx837_1 := (HB.out.cell (World.block_lt_of_cell? w _ hx837_1)).trans hx837_1
         replace p837 := eq_true p837
         replace q837 := eq_true q837
         go_wp2_with (first | ((with_reducible refine gate_callee (f := 40) rfl ?_); refine goesL_ (some 40) rfl rfl Try.func40 zk rfl #[.agg #[.int .i64 ((rd_T48 qB qQ).f0), .int .i64 ((rd_T48 qB qQ).f1)]] rfl zA ?_; (with_reducible refine (swageref06_In.calls ((rd_T48 qB qQ).f0) ((rd_T48 qB qQ).f1) true _ A16.out).mono ?_); rintro e w19 ⟨rfl, hb⟩; refine ⟨_, rfl, ?_⟩; replace qA := aM (blk_below (g := qR) (lK qA) hb); replace HB := aM (below_step (zB HB) hb); (try clear hb)))
         go_roundg k2
         case measure => have := HJ1.out; have := HK2.out; omega
         case rel => exact ⟨(wrap64 (qQ + 1)), zT, H', ⟨by have := HJ1.out; have := HK2.out; omega⟩, ⟨zb qA⟩, ⟨zB HB⟩⟩
        ·replace c17 := Bool.eq_false_iff.mpr c17
         subst c17
         have H1 : (some 2) = some r := by rw [if_neg (show ¬ (false = true) by decide)] at H; exact H
         clear H
         have H := H1
         clear H1
         obtain rfl := Option.some.inj H
         have jX := zc15 qA.out
         have jY := fun i_ : Nat => blk_frozen qA.out i_
         have p837 : 0 ≤ (qQ : Int) := of_decide_eq_true za
         have q837 : qQ < (qB.length : Int) := of_decide_eq_true za
         obtain ⟨ad837, e837, hx837_0, hx837_1⟩ := at_T48 jQ.out qQ p837 q837
         cases e837
         replace hx837_0 := (HB.out.cell (World.block_lt_of_cell? w _ hx837_0)).trans hx837_0
         replace hx837_1 := (HB.out.cell (World.block_lt_of_cell? w _ hx837_1)).trans hx837_1
         replace p837 := eq_true p837
         replace q837 := eq_true q837
         go_wp2_with (first | ((with_reducible refine gate_callee (f := 40) rfl ?_); refine goesL_ (some 40) rfl rfl Try.func40 zk rfl #[.agg #[.int .i64 ((rd_T48 qB qQ).f0), .int .i64 ((rd_T48 qB qQ).f1)]] rfl zA ?_; (with_reducible refine (swageref06_In.calls ((rd_T48 qB qQ).f0) ((rd_T48 qB qQ).f1) false _ A16.out).mono ?_); rintro e w21 ⟨rfl, hb⟩; refine ⟨_, rfl, ?_⟩; replace qA := aM (blk_below (g := qR) (lK qA) hb); replace HB := aM (below_step (zB HB) hb); (try clear hb)))
         go_ret
         exact ⟨zE, zB HB⟩
       ·rw [if_neg c15] at H
        exact absurd H (by simp)
      ·rw [if_neg c14] at H
       have c14b0 := decide_eq_false c14
       clear c14
       replace H := Option.bind_eq_some_iff.mp H
       obtain ⟨q5, A220, H⟩ := H
       replace H : (if q5 = true then ((swageref08_Right.f k2 qO qP qL qE).bind fun qY => (if qY = true then ((swageref08_Right.f k2 qF qG qC qD).bind fun qS => (if qS = true then (some 0) else (some 80))) else (some 80))) else (some 80)) = some r := H
       have A22 := aM A220
       clear A220
       by_cases c23 : q5 = true
       ·subst c23
        have H1 : ((swageref08_Right.f k2 qO qP qL qE).bind fun qY => (if qY = true then ((swageref08_Right.f k2 qF qG qC qD).bind fun qS => (if qS = true then (some 0) else (some 80))) else (some 80))) = some r := by rw [if_pos rfl] at H; exact H
        clear H
        have H := H1
        clear H1
        replace H := Option.bind_eq_some_iff.mp H
        obtain ⟨qY, A240, H⟩ := H
        replace H : (if qY = true then ((swageref08_Right.f k2 qF qG qC qD).bind fun qS => (if qS = true then (some 0) else (some 80))) else (some 80)) = some r := H
        have A24 := aM A240
        clear A240
        by_cases c25 : qY = true
        ·subst c25
         have H1 : ((swageref08_Right.f k2 qF qG qC qD).bind fun qS => (if qS = true then (some 0) else (some 80))) = some r := by rw [if_pos rfl] at H; exact H
         clear H
         have H := H1
         clear H1
         replace H := Option.bind_eq_some_iff.mp H
         obtain ⟨qS, A260, H⟩ := H
         replace H : (if qS = true then (some 0) else (some 80)) = some r := H
         have A26 := aM A260
         clear A260
         by_cases c27 : qS = true
         ·subst c27
          have H1 : (some 0) = some r := by rw [if_pos rfl] at H; exact H
          clear H
          have H := H1
          clear H1
          obtain rfl := Option.some.inj H
          have jZ := zc15 qA.out
          have ja := fun i_ : Nat => blk_frozen qA.out i_
          go_wp2_with (first | ((with_reducible refine gate_callee (f := 41) rfl ?_); refine goesL_ (some 44) rfl rfl Try.func41 zk rfl #[.agg #[.int .i64 qJ, .int .i64 qK, .slice qU qH.length qV, .slice qW qI.length qX]] rfl zA ?_; (with_reducible refine (swageref08_Right.calls k2 qJ qK _ _ qH _ _ qI true _ ?side1 ?side2 ?side3 ?side4 A22.out).mono ?_); (case side1 => refine lY ?_; exact (Kd.C_below qt.out HB.out)); (case side2 => exact qu.out); (case side3 => refine lY ?_; exact (Kd.C_below qv.out HB.out)); (case side4 => exact qw.out); rintro e w29 ⟨rfl, hb⟩; refine ⟨_, rfl, ?_⟩; replace qA := aM (blk_below (g := qR) (lK qA) hb); replace HB := aM (below_step (zB HB) hb); (try clear hb); have jb := zc15 qA.out; have jc := fun i_ : Nat => blk_frozen qA.out i_) | (go_at_call 41; (with_reducible refine (swageref08_Right.calls k2 qO qP _ _ qL _ _ qE true _ ?side1 ?side2 ?side3 ?side4 A24.out).mono ?_); (case side1 => refine lY ?_; exact (Kd.C_below q6.out HB.out)); (case side2 => exact q7.out); (case side3 => refine lY ?_; exact (Kd.C_below q2.out HB.out)); (case side4 => exact q3.out); rintro e w31 ⟨rfl, hb⟩; replace qA := aM (blk_below (g := qR) (lK qA) hb); replace HB := aM (below_step (zB HB) hb); (try clear hb); have jd := zc15 qA.out; have je := fun i_ : Nat => blk_frozen qA.out i_) | (go_at_call 41; (with_reducible refine (swageref08_Right.calls k2 qF qG _ _ qC _ _ qD true _ ?side1 ?side2 ?side3 ?side4 A26.out).mono ?_); (case side1 => refine lY ?_; exact (Kd.C_below jE.out HB.out)); (case side2 => exact jF.out); (case side3 => refine lY ?_; exact (Kd.C_below jG.out HB.out)); (case side4 => exact jH.out); rintro e w33 ⟨rfl, hb⟩; replace qA := aM (blk_below (g := qR) (lK qA) hb); replace HB := aM (below_step (zB HB) hb); (try clear hb)))
          go_ret
          exact ⟨zE, zB HB⟩
         ·replace c27 := Bool.eq_false_iff.mpr c27
          subst c27
          have H1 : (some 80) = some r := by rw [if_neg (show ¬ (false = true) by decide)] at H; exact H
          clear H
          have H := H1
          clear H1
          obtain rfl := Option.some.inj H
          have jf := zc15 qA.out
          have jg := fun i_ : Nat => blk_frozen qA.out i_
          go_wp2_with (first | ((with_reducible refine gate_callee (f := 41) rfl ?_); refine goesL_ (some 44) rfl rfl Try.func41 zk rfl #[.agg #[.int .i64 qJ, .int .i64 qK, .slice qU qH.length qV, .slice qW qI.length qX]] rfl zA ?_; (with_reducible refine (swageref08_Right.calls k2 qJ qK _ _ qH _ _ qI true _ ?side1 ?side2 ?side3 ?side4 A22.out).mono ?_); (case side1 => refine lY ?_; exact (Kd.C_below qt.out HB.out)); (case side2 => exact qu.out); (case side3 => refine lY ?_; exact (Kd.C_below qv.out HB.out)); (case side4 => exact qw.out); rintro e w35 ⟨rfl, hb⟩; refine ⟨_, rfl, ?_⟩; replace qA := aM (blk_below (g := qR) (lK qA) hb); replace HB := aM (below_step (zB HB) hb); (try clear hb); have jh := zc15 qA.out; have ji := fun i_ : Nat => blk_frozen qA.out i_) | (go_at_call 41; (with_reducible refine (swageref08_Right.calls k2 qO qP _ _ qL _ _ qE true _ ?side1 ?side2 ?side3 ?side4 A24.out).mono ?_); (case side1 => refine lY ?_; exact (Kd.C_below q6.out HB.out)); (case side2 => exact q7.out); (case side3 => refine lY ?_; exact (Kd.C_below q2.out HB.out)); (case side4 => exact q3.out); rintro e w37 ⟨rfl, hb⟩; replace qA := aM (blk_below (g := qR) (lK qA) hb); replace HB := aM (below_step (zB HB) hb); (try clear hb); have jj := zc15 qA.out; have jk := fun i_ : Nat => blk_frozen qA.out i_) | (go_at_call 41; (with_reducible refine (swageref08_Right.calls k2 qF qG _ _ qC _ _ qD false _ ?side1 ?side2 ?side3 ?side4 A26.out).mono ?_); (case side1 => refine lY ?_; exact (Kd.C_below jE.out HB.out)); (case side2 => exact jF.out); (case side3 => refine lY ?_; exact (Kd.C_below jG.out HB.out)); (case side4 => exact jH.out); rintro e w39 ⟨rfl, hb⟩; replace qA := aM (blk_below (g := qR) (lK qA) hb); replace HB := aM (below_step (zB HB) hb); (try clear hb)))
          go_ret
          exact ⟨zE, zB HB⟩
        ·replace c25 := Bool.eq_false_iff.mpr c25
         subst c25
         have H1 : (some 80) = some r := by rw [if_neg (show ¬ (false = true) by decide)] at H; exact H
         clear H
         have H := H1
         clear H1
         obtain rfl := Option.some.inj H
         have jl := zc15 qA.out
         have jm := fun i_ : Nat => blk_frozen qA.out i_
         go_wp2_with (first | ((with_reducible refine gate_callee (f := 41) rfl ?_); refine goesL_ (some 44) rfl rfl Try.func41 zk rfl #[.agg #[.int .i64 qJ, .int .i64 qK, .slice qU qH.length qV, .slice qW qI.length qX]] rfl zA ?_; (with_reducible refine (swageref08_Right.calls k2 qJ qK _ _ qH _ _ qI true _ ?side1 ?side2 ?side3 ?side4 A22.out).mono ?_); (case side1 => refine lY ?_; exact (Kd.C_below qt.out HB.out)); (case side2 => exact qu.out); (case side3 => refine lY ?_; exact (Kd.C_below qv.out HB.out)); (case side4 => exact qw.out); rintro e w41 ⟨rfl, hb⟩; refine ⟨_, rfl, ?_⟩; replace qA := aM (blk_below (g := qR) (lK qA) hb); replace HB := aM (below_step (zB HB) hb); (try clear hb); have jn := zc15 qA.out; have jo := fun i_ : Nat => blk_frozen qA.out i_) | (go_at_call 41; (with_reducible refine (swageref08_Right.calls k2 qO qP _ _ qL _ _ qE false _ ?side1 ?side2 ?side3 ?side4 A24.out).mono ?_); (case side1 => refine lY ?_; exact (Kd.C_below q6.out HB.out)); (case side2 => exact q7.out); (case side3 => refine lY ?_; exact (Kd.C_below q2.out HB.out)); (case side4 => exact q3.out); rintro e w43 ⟨rfl, hb⟩; replace qA := aM (blk_below (g := qR) (lK qA) hb); replace HB := aM (below_step (zB HB) hb); (try clear hb)))
         go_ret
         exact ⟨zE, zB HB⟩
       ·replace c23 := Bool.eq_false_iff.mpr c23
        subst c23
        have H1 : (some 80) = some r := by rw [if_neg (show ¬ (false = true) by decide)] at H; exact H
        clear H
        have H := H1
        clear H1
        obtain rfl := Option.some.inj H
        have jp := zc15 qA.out
        have jq := fun i_ : Nat => blk_frozen qA.out i_
        go_wp2_with (first | ((with_reducible refine gate_callee (f := 41) rfl ?_); refine goesL_ (some 44) rfl rfl Try.func41 zk rfl #[.agg #[.int .i64 qJ, .int .i64 qK, .slice qU qH.length qV, .slice qW qI.length qX]] rfl zA ?_; (with_reducible refine (swageref08_Right.calls k2 qJ qK _ _ qH _ _ qI false _ ?side1 ?side2 ?side3 ?side4 A22.out).mono ?_); (case side1 => refine lY ?_; exact (Kd.C_below qt.out HB.out)); (case side2 => exact qu.out); (case side3 => refine lY ?_; exact (Kd.C_below qv.out HB.out)); (case side4 => exact qw.out); rintro e w45 ⟨rfl, hb⟩; refine ⟨_, rfl, ?_⟩; replace qA := aM (blk_below (g := qR) (lK qA) hb); replace HB := aM (below_step (zB HB) hb); (try clear hb)))
        go_ret
        exact ⟨zE, zB HB⟩

end Go.Proofs.Ytccbdcbeinkjgaa.XA
end

section
namespace Go.Proofs.Ytccbdcbeinkjgaa.XA
open Go.Proofs.Ytccbdcbeinkjgaa.Lift Go.RowKit Go.Proofs.YtccbdcbeinkjgaaW.PrintWords Go.Proofs.YtccbdcbeinkjgaaW.PrintLast Go.Proofs.YtccbdcbeinkjgaaW.PrintMore
attribute [local go_sem] max2_int min2_int max_two min_two max_three min_three max_four min_four
set_option linter.unusedVariables false
set_option linter.unusedSimpArgs false

/-! ### swageref17_two: function 43 -/
def swageref17_two.f (a0 : Int) : Option (List Int) := some (([(wrap64 (Int.tdiv (Int.tmod (wrap64 (a0 + 65536)) 65536) 256)) % 256, (Int.tmod (Int.tmod (wrap64 (a0 + 65536)) 65536) 256) % 256] : List Int))
set_option maxHeartbeats 8000000 in
set_option maxRecDepth 100000 in
theorem swageref17_two.calls (a0 : Int) (r : List Int) (w : World) (h : swageref17_two.f a0 = some r) :
  Calls Try.prog 43 #[.int .i64 a0] w fun e w' => ∃ v0_ : Value, e = .returned (v0_) ∧ Kd.R (Kd.int .u8) 5 w' w.heap.size (fun _ => True) v0_ r ∧ Below w.heap.size w w' := by
 have HB := aM (Below.refl w.heap.size w)
 have H : (some (([(wrap64 (Int.tdiv (Int.tmod (wrap64 (a0 + 65536)) 65536) 256)) % 256, (Int.tmod (Int.tmod (wrap64 (a0 + 65536)) 65536) 256) % 256] : List Int))) = some r := h
 clear h
 obtain ⟨y842, hy842⟩ : ∃ y_ : List Int, y_ = (([(wrap64 (Int.tdiv (Int.tmod (wrap64 (a0 + 65536)) 65536) 256)) % 256, (Int.tmod (Int.tmod (wrap64 (a0 + 65536)) 65536) 256) % 256] : List Int)) := ⟨_, rfl⟩
 replace H : (some y842) = some r := zH hy842 H
 have Ny842 := aM hy842
 clear hy842
 obtain rfl := Option.some.inj H
 go_enter Try.func43, Try.ntmps43
 go_wp2_with (first | ((with_reducible refine gate_dst (N := 12) rfl ?_); refine Kd.R_lit (Kd.int .u8) _ 5 ?hg (N := 12) ?hd (xs := ([(wrap64 (Int.tdiv (Int.tmod (wrap64 (a0 + 65536)) 65536) 256)) % 256, (Int.tmod (Int.tmod (wrap64 (a0 + 65536)) 65536) 256) % 256] : List Int)) (inner := [.int .u8 ((wrap64 (Int.tdiv (Int.tmod (wrap64 (a0 + 65536)) 65536) 256)) % 256), .int .u8 ((Int.tmod (Int.tmod (wrap64 (a0 + 65536)) 65536) 256) % 256)]) (ok := fun _ => True) (okp := fun _ => True) ?hr ?hp (fun _ hk => hk) trivial (Below.refl _ _) (Nat.le_refl _) (by simp) ?_; (case hd => rfl); (case hg => rfl); (case hr => first | (go_simp; done) | (go_simp; rfl)); (case hp => exact (Reps.one (show Kd.M (Kd.int .u8) _ _ _ ((wrap64 (Int.tdiv (Int.tmod (wrap64 (a0 + 65536)) 65536) 256)) % 256) [.int .u8 ((wrap64 (Int.tdiv (Int.tmod (wrap64 (a0 + 65536)) 65536) 256)) % 256)] from rfl) (Reps.one (show Kd.M (Kd.int .u8) _ _ _ ((Int.tmod (Int.tmod (wrap64 (a0 + 65536)) 65536) 256) % 256) [.int .u8 ((Int.tmod (Int.tmod (wrap64 (a0 + 65536)) 65536) 256) % 256)] from rfl) (Reps.none _ _)))); intro v843 w2 ho3 hb hg_ hnew_; clear hg_ hnew_; (first | rw [← Ny842.out] at ho3 | (simp only [Int.reduceToNat] at ho3; rw [← Ny842.out] at ho3)); have qA := aM (Kd.R_lower ho3 (below_size (lB HB))); replace HB := aM (below_step (lB HB) hb); clear hb ho3))
 go_ret
 exact ⟨_, zE, by apply rX; exact qA.out, zB HB⟩

end Go.Proofs.Ytccbdcbeinkjgaa.XA
end

section
namespace Go.Proofs.Ytccbdcbeinkjgaa.XA
open Go.Proofs.Ytccbdcbeinkjgaa.Lift Go.RowKit Go.Proofs.YtccbdcbeinkjgaaW.PrintWords Go.Proofs.YtccbdcbeinkjgaaW.PrintLast Go.Proofs.YtccbdcbeinkjgaaW.PrintMore
attribute [local go_sem] max2_int min2_int max_two min_two max_three min_three max_four min_four
set_option linter.unusedVariables false
set_option linter.unusedSimpArgs false

/-! ### swageref17_program: function 42 -/
mutual
def swageref17_program.l0 : Nat → List Int → Int → Int → Int → List (S63) → List Int → Option (List Int)
 | 0, _, _, _, _, _, _ => none
 | k + 1, x3, x4, qS, qT, qI, qN => if x4 < (qI.length : Int) then (if 0 ≤ x4 then ((some (([((rd_T63 qI x4).f0) % 256, ((rd_T63 qI x4).f1) % 256, ((rd_T63 qI x4).f2) % 256, ((rd_T63 qI x4).f3) % 256] : List Int) : List Int)).bind fun y857 => (if x3.length + y857.length < 140737488355328 then ((some (x3 ++ y857 : List Int)).bind fun y860 => ((swageref17_two.f ((rd_T63 qI x4).f4)).bind fun qJ => (if y860.length + qJ.length < 140737488355328 then (swageref17_program.l0 k (y860 ++ qJ) (wrap64 (x4 + 1)) qS qT qI qN) else (none)))) else (none))) else (none)) else (if x3.length < 140737488355328 then (swageref17_program.l1 k (x3 ++ [((qN.length : Int)) % 256]) 0 qS qT qI qN) else (none))
def swageref17_program.l1 : Nat → List Int → Int → Int → Int → List (S63) → List Int → Option (List Int)
 | 0, _, _, _, _, _, _ => none
 | k + 1, x3, x6, qS, qT, qI, qN => if x6 < (qN.length : Int) then (if 0 ≤ x6 then (if x3.length < 140737488355328 then (swageref17_program.l1 k (x3 ++ [(rd qN x6) % 256]) (wrap64 (x6 + 1)) qS qT qI qN) else (none)) else (none)) else (some x3)
end
def swageref17_program.f (k : Nat) (qE : Int) (qF : Int) (qA : List (S63)) (qD : List Int) : Option (List Int) := (some (([(qE) % 256, (qF) % 256] : List Int) : List Int)).bind fun y846 => ((swageref17_two.f (qA.length : Int)).bind fun qL => (if y846.length + qL.length < 140737488355328 then (swageref17_program.l0 k (y846 ++ qL) 0 qE qF qA qD) else (none)))
theorem swageref17_program.mono_l : ∀ k, (∀ y0 y1 y2 y3 y4 y5, LeO (swageref17_program.l0 k y0 y1 y2 y3 y4 y5) (swageref17_program.l0 (k + 1) y0 y1 y2 y3 y4 y5)) ∧ (∀ y0 y1 y2 y3 y4 y5, LeO (swageref17_program.l1 k y0 y1 y2 y3 y4 y5) (swageref17_program.l1 (k + 1) y0 y1 y2 y3 y4 y5))
 | 0 => ⟨fun _ _ _ _ _ _ r h => by simp [swageref17_program.l0] at h, fun _ _ _ _ _ _ r h => by simp [swageref17_program.l1] at h⟩
 | k + 1 => by
  obtain ⟨ih0, ih1⟩ := swageref17_program.mono_l k
  refine ⟨?_, ?_⟩
  ·intro y0 y1 y2 y3 y4 y5
   unfold swageref17_program.l0
   exact zM
  ·intro y0 y1 y2 y3 y4 y5
   unfold swageref17_program.l1
   exact zM
theorem swageref17_program.mono : ∀ a0 a1 a2 a3 k, LeO (swageref17_program.f k a0 a1 a2 a3) (swageref17_program.f (k + 1) a0 a1 a2 a3) := by
 intro a0 a1 a2 a3 k
 obtain ⟨ih0, ih1⟩ := swageref17_program.mono_l k
 unfold swageref17_program.f
 exact zM
set_option maxHeartbeats 8000000 in
set_option maxRecDepth 100000 in
theorem swageref17_program.calls (k : Nat) (qE : Int) (qF : Int) (qY : Option Addr) (qZ : Nat) (qA : List (S63)) (qa : Option Addr) (qb : Nat) (qD : List Int) (r : List Int) (w : World) (qg : Kd.C k63 w qY qA.length qA) (qh : qA.length ≤ qZ) (qi : Kd.C (Kd.int .i64) w qa qD.length qD) (qj : qD.length ≤ qb) (h : swageref17_program.f k qE qF qA qD = some r) :
  Calls Try.prog 42 #[.agg #[.int .i64 qE, .int .i64 qF, .slice qY qA.length qZ, .slice qa qD.length qb]] w fun e w' => ∃ v0_ : Value, e = .returned (v0_) ∧ Kd.R (Kd.int .u8) 5 w' w.heap.size (fun _ => True) v0_ r ∧ Below w.heap.size w w' := by
 have hu26 := Try.underlying26
 have hu63 := Try.underlying63
 have qm := aM qg
 have jA := aM qh
 clear qg qh
 have qn := aM qi
 have jB := aM qj
 clear qi qj
 have HB := aM (Below.refl w.heap.size w)
 have H : ((some (([(qE) % 256, (qF) % 256] : List Int) : List Int)).bind fun y846 => ((swageref17_two.f (qA.length : Int)).bind fun qL => (if y846.length + qL.length < 140737488355328 then (swageref17_program.l0 k (y846 ++ qL) 0 qE qF qA qD) else (none)))) = some r := h
 clear h
 obtain ⟨y846, hy846⟩ : ∃ y_ : List Int, y_ = (([(qE) % 256, (qF) % 256] : List Int)) := ⟨_, rfl⟩
 replace H : ((swageref17_two.f (qA.length : Int)).bind fun qL => (if y846.length + qL.length < 140737488355328 then (swageref17_program.l0 k (y846 ++ qL) 0 qE qF qA qD) else (none))) = some r := zH hy846 H
 have Ny846 := aM hy846
 clear hy846
 replace H := Option.bind_eq_some_iff.mp H
 obtain ⟨qL, A20, H⟩ := H
 replace H : (if y846.length + qL.length < 140737488355328 then (swageref17_program.l0 k (y846 ++ qL) 0 qE qF qA qD) else (none)) = some r := H
 have A2 := aM A20
 clear A20
 by_cases c3 : y846.length + qL.length < 140737488355328
 ·rw [if_pos c3] at H
  have LMc3 := aM c3
  clear c3
  obtain ⟨y852, hy852⟩ : ∃ y_ : List Int, y_ = (y846 ++ qL) := ⟨_, rfl⟩
  replace H : (swageref17_program.l0 k y852 0 qE qF qA qD) = some r := zH hy852 H
  have Ny852 := aM hy852
  clear hy852
  have H' := aM H
  clear H
  go_enter Try.func42, Try.ntmps42
  go_wp2_with (first | ((with_reducible refine gate_dst (N := 1) rfl ?_); refine box_event rfl (N := 1) rfl (cs := #[.int .i64 qE, .int .i64 qF, .slice qY qA.length qZ, .slice qa qD.length qb]) (t := 26) zG ?_; intro qG hg w4 hbox hb; have qB := aM (hbox); have jC := aM ((by rw [hg]; exact (below_size (lB HB)) : w.heap.size ≤ qG)); have jD := aM ((by rw [hg]; exact (below_size (lB HB)) : w.heap.size ≤ qG)); replace HB := aM (below_step (lB HB) hb); clear hb hbox hg; have q6 := zc4 qB.out; have q7 := fun i_ : Nat => blk_frozen qB.out i_) | ((with_reducible refine gate_dst (N := 13) rfl ?_); refine Kd.R_lit (Kd.int .u8) _ 5 ?hg (N := 13) ?hd (xs := ([(qE) % 256, (qF) % 256] : List Int)) (inner := [.int .u8 ((qE) % 256), .int .u8 ((qF) % 256)]) (ok := fun _ => True) (okp := fun _ => True) ?hr ?hp (fun _ hk => hk) trivial (Below.refl _ _) (Nat.le_refl _) (by simp) ?_; (case hd => rfl); (case hg => rfl); (case hr => first | (go_simp; done) | (go_simp; rfl)); (case hp => exact (Reps.one (show Kd.M (Kd.int .u8) _ _ _ ((qE) % 256) [.int .u8 ((qE) % 256)] from rfl) (Reps.one (show Kd.M (Kd.int .u8) _ _ _ ((qF) % 256) [.int .u8 ((qF) % 256)] from rfl) (Reps.none _ _)))); intro v847 w6 ho7 hb hg_ hnew_; clear hg_ hnew_; (first | rw [← Ny846.out] at ho7 | (simp only [Int.reduceToNat] at ho7; rw [← Ny846.out] at ho7)); have qU := aM (Kd.R_lower ho7 (below_size (zB HB))); replace qB := aM (blk_below (g := qG) (lK qB) hb); replace HB := aM (below_step (zB HB) hb); clear hb ho7; have q8 := zc4 qB.out; have q9 := fun i_ : Nat => blk_frozen qB.out i_) | ((with_reducible refine gate_callee (f := 43) rfl ?_); refine goesL_ (some 18) rfl rfl Try.func43 zk rfl #[.int .i64 (qA.length : Int)] rfl zA ?_; (with_reducible refine (swageref17_two.calls (qA.length : Int) qL _ A2.out).mono ?_); rintro e w9 ⟨v850, rfl, ho0, hb⟩; refine ⟨_, rfl, ?_⟩; have qV := aM (Kd.R_lower (Kd.R_new' ho0 (Kd.R_lt (lR qU))) (below_size (zB HB))); replace qU := aM (Kd.R_elder' (lR qU) (Kd.R_base ho0) hb); replace qB := aM (blk_below (g := qG) (lK qB) hb); replace HB := aM (below_step (zB HB) hb); (try clear hb); (try clear ho0); obtain ⟨qs, qt, eo11⟩ := Kd.R_slice qV.out; subst eo11) | ((with_reducible refine gate_builtin (b := .append) (xs := #[.tmp 14, .tmp 18]) rfl ?_); at_builtin; refine Kd.R_append_rows (Kd.int .u8) (w0 := w) w.heap.size rfl (.tmp 14) (.tmp 18) 31 5 (.int .u8 0) 1 rfl Try.underlying31 info5 rfl (by decide) (by omega) v847 y846 qL _ _ _ (fun k_ => some k_ ≠ (.slice qs qL.length qt : Value).ownBlock) (fun _ => False) rfl rfl ?aO ?aR (fun _ _ h => h) (fun _ h => h.elim) ?aF ?aB ?aS ?aL ?_; (case aR => repeat (first | exact (Kd.R_reads' qV.out).2.2 | (with_reducible refine Kd.C_alloc ?_ _) | (with_reducible refine Kd.C_drewN ?_ _) | (with_reducible refine Kd.C_drew ?_))); (case aB => exact (zB HB)); (case aF => exact (fun k_ hk => Kd.fresh' (Kd.R_lt (lR qV)) k_ hk)); (case aO => exact (by apply rX; exact Kd.R_mono qU.out (fun _ hk => hk.2))); (case aS => exact (below_size (zB HB))); (case aL => have := LMc3.out; omega); intro v853 w10 ho hb hg hat; rw [← Ny852.out] at ho; replace qB := aM (blk_grown (g := qG) (lK qB) hg (Kd.R_ne qU.out qB.out (by decide))); replace qV := aM (Kd.R_after (ok := (fun _ => True)) (lR qV) hg hat); replace HB := aM (hb); have qo := aM (ho); clear qU; clear ho hb hg hat))
  go_loopg [3, 4] k (fun kq v3 v4 w' => ∃ (qP : List Int) (qC : Int), v4 = .int .i64 qC ∧ Aside0 (swageref17_program.l0 kq qP qC qE qF qA qD = some r) ∧ Aside0 (kq ≤ k) ∧ Aside0 (Kd.R (Kd.int .u8) 5 w' w.heap.size (fun _ => True) v3 qP) ∧ Aside0 (w'.heap[qG]? = some (.cells #[.int .i64 qE, .int .i64 qF, (.slice qY qA.length qZ), (.slice qa qD.length qb)] 26 (0, 0))) ∧ Aside0 (Below w.heap.size w w'))
  case atStart => exact ⟨(y852), (0), zT, H', ⟨Nat.le_refl _⟩, ⟨by apply rX; exact Kd.R_mono qo.out (fun _ hk => trivial)⟩, ⟨zb qB⟩, ⟨zB HB⟩⟩
  case round =>
   clear H'
   try clear c3
   obtain ⟨qP, qC, rfl, HA, HK1, qK, qB, HB⟩ := hrel
   cases gk with
   | zero => exact absurd HA.out (by simp [swageref17_program.l0])
   | succ k1 =>
    have H := HA.out
    clear HA
    simp only [swageref17_program.l0] at H
    by_cases c12 : qC < (qA.length : Int)
    ·rw [if_pos c12] at H
     have c12b0 := decide_eq_true c12
     clear c12
     by_cases c13 : 0 ≤ qC
     ·rw [if_pos c13] at H
      have c13b0 := decide_eq_true c13
      clear c13
      obtain ⟨y857, hy857⟩ : ∃ y_ : List Int, y_ = (([((rd_T63 qA qC).f0) % 256, ((rd_T63 qA qC).f1) % 256, ((rd_T63 qA qC).f2) % 256, ((rd_T63 qA qC).f3) % 256] : List Int)) := ⟨_, rfl⟩
      replace H : (if qP.length + y857.length < 140737488355328 then ((some (qP ++ y857 : List Int)).bind fun y860 => ((swageref17_two.f ((rd_T63 qA qC).f4)).bind fun qJ => (if y860.length + qJ.length < 140737488355328 then (swageref17_program.l0 k1 (y860 ++ qJ) (wrap64 (qC + 1)) qE qF qA qD) else (none)))) else (none)) = some r := zH hy857 H
      have Ny857 := aM hy857
      clear hy857
      by_cases c14 : qP.length + y857.length < 140737488355328
      ·rw [if_pos c14] at H
       have LMc14 := aM c14
       clear c14
       obtain ⟨y860, hy860⟩ : ∃ y_ : List Int, y_ = (qP ++ y857) := ⟨_, rfl⟩
       replace H : ((swageref17_two.f ((rd_T63 qA qC).f4)).bind fun qJ => (if y860.length + qJ.length < 140737488355328 then (swageref17_program.l0 k1 (y860 ++ qJ) (wrap64 (qC + 1)) qE qF qA qD) else (none))) = some r := zH hy860 H
       have Ny860 := aM hy860
       clear hy860
       replace H := Option.bind_eq_some_iff.mp H
       obtain ⟨qJ, A150, H⟩ := H
       replace H : (if y860.length + qJ.length < 140737488355328 then (swageref17_program.l0 k1 (y860 ++ qJ) (wrap64 (qC + 1)) qE qF qA qD) else (none)) = some r := H
       have A15 := aM A150
       clear A150
       by_cases c16 : y860.length + qJ.length < 140737488355328
       ·rw [if_pos c16] at H
        have LMc16 := aM c16
        clear c16
        obtain ⟨y866, hy866⟩ : ∃ y_ : List Int, y_ = (y860 ++ qJ) := ⟨_, rfl⟩
        replace H : (swageref17_program.l0 k1 y866 (wrap64 (qC + 1)) qE qF qA qD) = some r := zH hy866 H
        have Ny866 := aM hy866
        clear hy866
        have H' := aM H
        clear H
        have qu := zc4 qB.out
        have qv := fun i_ : Nat => blk_frozen qB.out i_
        have p855 : 0 ≤ (qC : Int) := of_decide_eq_true za
        have q855 : qC < (qA.length : Int) := of_decide_eq_true za
        obtain ⟨ad855, e855, hx855_0, hx855_1, hx855_2, hx855_3, hx855_4⟩ := at_T63 qm.out qC p855 q855
        cases e855
        replace hx855_0 := (HB.out.cell (World.block_lt_of_cell? w _ hx855_0)).trans hx855_0
        replace hx855_1 := (HB.out.cell (World.block_lt_of_cell? w _ hx855_1)).trans hx855_1
        replace hx855_2 := (HB.out.cell (World.block_lt_of_cell? w _ hx855_2)).trans hx855_2
        replace hx855_3 := (HB.out.cell (World.block_lt_of_cell? w _ hx855_3)).trans hx855_3
        replace hx855_4 := (HB.out.cell (World.block_lt_of_cell? w _ hx855_4)).trans hx855_4
        replace p855 := eq_true p855
        replace q855 := eq_true q855
        go_wp2_with (first | ((with_reducible refine gate_dst (N := 5) rfl ?_); refine box_event rfl (N := 5) rfl (cs := #[.int .i64 0, .int .i64 0, .int .i64 0, .int .i64 0, .int .i64 0]) (t := 63) zG ?_; intro qQ hg w18 hbox hb; replace qK := aM (Kd.R_below (lR qK) hb); have qH := aM (hbox); have jE := aM ((by rw [hg]; exact (below_size (zB HB)) : w.heap.size ≤ qQ)); have jF := aM ((by rw [hg]; exact (below_size (zB HB)) : w.heap.size ≤ qQ)); replace HB := aM (below_step (zB HB) hb); have qc := aM ((by rw [hg]; exact Nat.ne_of_lt (blk_lt (g := qG) (lK qB)) : qG ≠ qQ)); have qd := aM ((by rw [hg]; exact Nat.ne_of_gt (blk_lt (g := qG) (lK qB)) : qQ ≠ qG)); replace qB := aM (blk_below (g := qG) (lK qB) hb); clear hb hbox hg; have jG := qd.out; have jH := qc.out; have qw := zc5 qH.out; have qx := fun i_ : Nat => blk_frozen qH.out i_) | ((with_reducible refine gate_dst (N := 45) rfl ?_); refine Kd.R_lit (Kd.int .u8) _ 5 ?hg (N := 45) ?hd (xs := ([((rd_T63 qA qC).f0) % 256, ((rd_T63 qA qC).f1) % 256, ((rd_T63 qA qC).f2) % 256, ((rd_T63 qA qC).f3) % 256] : List Int)) (inner := [.int .u8 (((rd_T63 qA qC).f0) % 256), .int .u8 (((rd_T63 qA qC).f1) % 256), .int .u8 (((rd_T63 qA qC).f2) % 256), .int .u8 (((rd_T63 qA qC).f3) % 256)]) (ok := fun _ => True) (okp := fun _ => True) ?hr ?hp (fun _ hk => hk) trivial (Below.refl _ _) (Nat.le_refl _) (by simp) ?_; (case hd => rfl); (case hg => rfl); (case hr => first | (go_simp; done) | (go_simp; rfl)); (case hp => exact (Reps.one (show Kd.M (Kd.int .u8) _ _ _ (((rd_T63 qA qC).f0) % 256) [.int .u8 (((rd_T63 qA qC).f0) % 256)] from rfl) (Reps.one (show Kd.M (Kd.int .u8) _ _ _ (((rd_T63 qA qC).f1) % 256) [.int .u8 (((rd_T63 qA qC).f1) % 256)] from rfl) (Reps.one (show Kd.M (Kd.int .u8) _ _ _ (((rd_T63 qA qC).f2) % 256) [.int .u8 (((rd_T63 qA qC).f2) % 256)] from rfl) (Reps.one (show Kd.M (Kd.int .u8) _ _ _ (((rd_T63 qA qC).f3) % 256) [.int .u8 (((rd_T63 qA qC).f3) % 256)] from rfl) (Reps.none _ _)))))); intro v858 w21 ho22 hb hg_ hnew_; clear hg_ hnew_; (first | rw [← Ny857.out] at ho22 | (simp only [Int.reduceToNat] at ho22; rw [← Ny857.out] at ho22)); have qM := aM (Kd.R_lower (Kd.R_new' ho22 (Kd.R_lt (by apply rX; exact (Kd.R_mono (fA (fA (fA (fA (fA (Kd.R_types qK.out qH.out (by decide))))))) (fun _ h_ => h_.1))))) (below_size (zB HB))); replace qK := aM (Kd.R_elder' (by apply rX; exact (Kd.R_mono (fA (fA (fA (fA (fA (Kd.R_types qK.out qH.out (by decide))))))) (fun _ h_ => h_.1))) (Kd.R_base ho22) hb); replace qB := aM (blk_below (g := qG) (zb qB) hb); replace qH := aM (blk_below (g := qQ) (o := .cells #[.int .i64 ((rd_T63 qA qC).f0), .int .i64 ((rd_T63 qA qC).f1), .int .i64 ((rd_T63 qA qC).f2), .int .i64 ((rd_T63 qA qC).f3), .int .i64 ((rd_T63 qA qC).f4)] 63 (0, 0)) (by refine lZ ?_; refine blk_put (cs := #[.int .i64 ((rd_T63 qA qC).f0), .int .i64 ((rd_T63 qA qC).f1), .int .i64 ((rd_T63 qA qC).f2), .int .i64 ((rd_T63 qA qC).f3), .int .i64 0]) ?_ 4 _ rfl; refine lZ ?_; refine blk_put (cs := #[.int .i64 ((rd_T63 qA qC).f0), .int .i64 ((rd_T63 qA qC).f1), .int .i64 ((rd_T63 qA qC).f2), .int .i64 0, .int .i64 0]) ?_ 3 _ rfl; refine lZ ?_; refine blk_put (cs := #[.int .i64 ((rd_T63 qA qC).f0), .int .i64 ((rd_T63 qA qC).f1), .int .i64 0, .int .i64 0, .int .i64 0]) ?_ 2 _ rfl; refine lZ ?_; refine blk_put (cs := #[.int .i64 ((rd_T63 qA qC).f0), .int .i64 0, .int .i64 0, .int .i64 0, .int .i64 0]) ?_ 1 _ rfl; refine lZ ?_; refine blk_put (cs := #[.int .i64 0, .int .i64 0, .int .i64 0, .int .i64 0, .int .i64 0]) ?_ 0 _ rfl; refine lZ ?_; exact qH.out) hb); replace HB := aM (below_step (zB HB) hb); clear hb ho22; obtain ⟨qe, qf, eo24⟩ := Kd.R_slice qM.out; subst eo24) | ((with_reducible refine gate_builtin (b := .append) (xs := #[.tmp 32, .tmp 45]) rfl ?_); at_builtin; refine Kd.R_append_rows (Kd.int .u8) (w0 := w) w.heap.size rfl (.tmp 32) (.tmp 45) 31 5 (.int .u8 0) 1 rfl Try.underlying31 info5 rfl (by decide) (by omega) u3 qP y857 _ _ _ (fun k_ => some k_ ≠ (.slice qe y857.length qf : Value).ownBlock) (fun _ => False) rfl rfl ?aO ?aR (fun _ _ h => h) (fun _ h => h.elim) ?aF ?aB ?aS ?aL ?_; (case aR => repeat (first | exact (Kd.R_reads' qM.out).2.2 | (with_reducible refine Kd.C_alloc ?_ _) | (with_reducible refine Kd.C_drewN ?_ _) | (with_reducible refine Kd.C_drew ?_))); (case aB => exact (zB HB)); (case aF => exact (fun k_ hk => Kd.fresh' (Kd.R_lt (lR qM)) k_ hk)); (case aO => exact (by apply rX; exact Kd.R_mono qK.out (fun _ hk => hk.2))); (case aS => exact (below_size (zB HB))); (case aL => have := LMc14.out; omega); intro v861 w23 ho hb hg hat; rw [← Ny860.out] at ho; replace qB := aM (blk_grown (g := qG) (lK qB) hg (Kd.R_ne qK.out qB.out (by decide))); replace qH := aM (blk_grown (g := qQ) (lK qH) hg (Kd.R_ne qK.out qH.out (by decide))); replace qM := aM (Kd.R_after (ok := (fun _ => True)) (lR qM) hg hat); replace HB := aM (hb); have qR := aM (ho); clear qK; clear ho hb hg hat; have qy := zc5 qH.out; have qz := fun i_ : Nat => blk_frozen qH.out i_) | ((with_reducible refine gate_callee (f := 43) rfl ?_); refine goesL_ (some 50) rfl rfl Try.func43 zk rfl #[.int .i64 ((rd_T63 qA qC).f4)] rfl zA ?_; (with_reducible refine (swageref17_two.calls ((rd_T63 qA qC).f4) qJ _ A15.out).mono ?_); rintro e w26 ⟨v864, rfl, ho0, hb⟩; refine ⟨_, rfl, ?_⟩; have qW := aM (Kd.R_lower (Kd.R_new' (Kd.R_new' ho0 (Kd.R_lt (lR qM))) (Kd.R_lt (lR qR))) (below_size (zB HB))); replace qM := aM (Kd.R_elder' (lR qM) (Kd.R_base ho0) hb); replace qR := aM (Kd.R_elder' (lR qR) (Kd.R_base ho0) hb); replace qB := aM (blk_below (g := qG) (lK qB) hb); replace qH := aM (blk_below (g := qQ) (lK qH) hb); replace HB := aM (below_step (zB HB) hb); (try clear hb); (try clear ho0); obtain ⟨qk, ql, eo28⟩ := Kd.R_slice qW.out; subst eo28) | ((with_reducible refine gate_builtin (b := .append) (xs := #[.tmp 47, .tmp 50]) rfl ?_); at_builtin; refine Kd.R_append_rows (Kd.int .u8) (w0 := w) w.heap.size rfl (.tmp 47) (.tmp 50) 31 5 (.int .u8 0) 1 rfl Try.underlying31 info5 rfl (by decide) (by omega) v861 y860 qJ _ _ _ (fun k_ => some k_ ≠ (.slice qe y857.length qf : Value).ownBlock ∧ some k_ ≠ (.slice qk qJ.length ql : Value).ownBlock) (fun _ => False) rfl rfl ?aO ?aR (fun _ _ h => h) (fun _ h => h.elim) ?aF ?aB ?aS ?aL ?_; (case aR => repeat (first | exact (Kd.R_reads' qW.out).2.2 | (with_reducible refine Kd.C_alloc ?_ _) | (with_reducible refine Kd.C_drewN ?_ _) | (with_reducible refine Kd.C_drew ?_))); (case aB => exact (zB HB)); (case aF => exact (fun k_ hk => ⟨Kd.fresh' (Kd.R_lt (lR qM)) k_ hk, Kd.fresh' (Kd.R_lt (lR qW)) k_ hk⟩)); (case aO => exact (lR qR)); (case aS => exact (below_size (zB HB))); (case aL => have := LMc16.out; omega); intro v867 w27 ho hb hg hat; rw [← Ny866.out] at ho; replace qB := aM (blk_grown (g := qG) (lK qB) hg (Kd.R_ne qR.out qB.out (by decide))); replace qH := aM (blk_grown (g := qQ) (lK qH) hg (Kd.R_ne qR.out qH.out (by decide))); replace qM := aM (Kd.R_after (ok := (fun k_ => some k_ ≠ (.slice qk qJ.length ql : Value).ownBlock)) (by apply rX; exact Kd.R_mono qM.out (fun _ hk => ⟨hk.2, hk.1.2⟩)) hg hat); replace qW := aM (Kd.R_after (ok := (fun k_ => some k_ ≠ (.slice qe y857.length qf : Value).ownBlock)) (by apply rX; exact Kd.R_mono qW.out (fun _ hk => ⟨hk.1.2, hk.2⟩)) hg hat); replace HB := aM (hb); have qp := aM (ho); clear qR; clear ho hb hg hat))
        go_roundg k1
        case measure => have := HK1.out; omega
        case rel => exact ⟨(y866), (wrap64 (qC + 1)), zT, H', ⟨by have := HK1.out; omega⟩, ⟨by apply rX; exact Kd.R_mono qp.out (fun _ hk => trivial)⟩, ⟨zb qB⟩, ⟨zB HB⟩⟩
       ·rw [if_neg c16] at H
        exact absurd H (by simp)
      ·rw [if_neg c14] at H
       exact absurd H (by simp)
     ·rw [if_neg c13] at H
      exact absurd H (by simp)
    ·rw [if_neg c12] at H
     have c12b0 := decide_eq_false c12
     clear c12
     by_cases c29 : qP.length < 140737488355328
     ·rw [if_pos c29] at H
      have LMc29 := aM c29
      clear c29
      obtain ⟨y869, hy869⟩ : ∃ y_ : List Int, y_ = (qP ++ [((qD.length : Int)) % 256]) := ⟨_, rfl⟩
      replace H : (swageref17_program.l1 k1 y869 0 qE qF qA qD) = some r := zH hy869 H
      have Ny869 := aM hy869
      clear hy869
      have H' := aM H
      clear H
      have q0 := zc4 qB.out
      have q1 := fun i_ : Nat => blk_frozen qB.out i_
      go_wp2_with (first | ((with_reducible refine gate_builtin (b := .append) (xs := #[.tmp 52, .tmp 57]) rfl ?_); at_builtin; refine Kd.R_append (Kd.int .u8) (w0 := w) w.heap.size rfl (.tmp 52) (.tmp 57) 31 5 (.int .u8 0) 1 rfl Try.underlying31 info5 rfl (by decide) (by omega) u3 qP (((qD.length : Int)) % 256) [.int .u8 (((qD.length : Int)) % 256)] (fun _ => True) (fun _ => False) rfl rfl ?aP (fun _ hk => hk.elim) ?aF ?aO ?aB ?aS ?aL ?_; (case aP => exact rfl); (case aB => exact (zB HB)); (case aF => exact (fun _ _ => trivial)); (case aO => exact (lR qK)); (case aS => exact (below_size (zB HB))); (case aL => have := LMc29.out; omega); intro v870 w31 ho hb hg hat; rw [← Ny869.out] at ho; replace qB := aM (blk_grown (g := qG) (lK qB) hg (Kd.R_ne qK.out qB.out (by decide))); replace HB := aM (hb); have qq := aM (ho); clear qK; clear ho hb hg hat))
      go_loopg [3, 6] k1 (fun kq v3 v6 w' => ∃ (qX : List Int) (qO : Int), v6 = .int .i64 qO ∧ Aside0 (swageref17_program.l1 kq qX qO qE qF qA qD = some r) ∧ Aside0 (kq ≤ k1) ∧ Aside0 (Kd.R (Kd.int .u8) 5 w' w.heap.size (fun _ => True) v3 qX) ∧ Aside0 (w'.heap[qG]? = some (.cells #[.int .i64 qE, .int .i64 qF, (.slice qY qA.length qZ), (.slice qa qD.length qb)] 26 (0, 0))) ∧ Aside0 (Below w.heap.size w w'))
      case atStart => exact ⟨(y869), (0), zT, H', ⟨Nat.le_refl _⟩, ⟨lR qq⟩, ⟨zb qB⟩, ⟨zB HB⟩⟩
      case round =>
       clear H'
       try clear c3
       try clear c12
       try clear c29
       obtain ⟨qX, qO, rfl, HA, HK2, qK, qB, HB⟩ := hrel
       cases gk with
       | zero => exact absurd HA.out (by simp [swageref17_program.l1])
       | succ k2 =>
        have H := HA.out
        clear HA
        simp only [swageref17_program.l1] at H
        by_cases c32 : qO < (qD.length : Int)
        ·rw [if_pos c32] at H
         have c32b0 := decide_eq_true c32
         clear c32
         by_cases c33 : 0 ≤ qO
         ·rw [if_pos c33] at H
          have c33b0 := decide_eq_true c33
          clear c33
          by_cases c34 : qX.length < 140737488355328
          ·rw [if_pos c34] at H
           have LMc34 := aM c34
           clear c34
           obtain ⟨y873, hy873⟩ : ∃ y_ : List Int, y_ = (qX ++ [(rd qD qO) % 256]) := ⟨_, rfl⟩
           replace H : (swageref17_program.l1 k2 y873 (wrap64 (qO + 1)) qE qF qA qD) = some r := zH hy873 H
           have Ny873 := aM hy873
           clear hy873
           have H' := aM H
           clear H
           have q2 := zc4 qB.out
           have q3 := fun i_ : Nat => blk_frozen qB.out i_
           have p872 : 0 ≤ (qO : Int) := of_decide_eq_true za
           have q872 : qO < (qD.length : Int) := of_decide_eq_true za
           obtain ⟨ad872, e872, hx872_0⟩ := Kd.at_int qn.out qO p872 q872
           cases e872
           replace hx872_0 := (HB.out.cell (World.block_lt_of_cell? w _ hx872_0)).trans hx872_0
           replace p872 := eq_true p872
           replace q872 := eq_true q872
           go_wp2_with (first | ((with_reducible refine gate_builtin (b := .append) (xs := #[.tmp 66, .tmp 73]) rfl ?_); at_builtin; refine Kd.R_append (Kd.int .u8) (w0 := w) w.heap.size rfl (.tmp 66) (.tmp 73) 31 5 (.int .u8 0) 1 rfl Try.underlying31 info5 rfl (by decide) (by omega) u3 qX ((rd qD qO) % 256) [.int .u8 ((rd qD qO) % 256)] (fun _ => True) (fun _ => False) rfl rfl ?aP (fun _ hk => hk.elim) ?aF ?aO ?aB ?aS ?aL ?_; (case aP => exact rfl); (case aB => exact (zB HB)); (case aF => exact (fun _ _ => trivial)); (case aO => exact (lR qK)); (case aS => exact (below_size (zB HB))); (case aL => have := LMc34.out; omega); intro v874 w36 ho hb hg hat; rw [← Ny873.out] at ho; replace qB := aM (blk_grown (g := qG) (lK qB) hg (Kd.R_ne qK.out qB.out (by decide))); replace HB := aM (hb); have qr := aM (ho); clear qK; clear ho hb hg hat))
           go_roundg k2
           case measure => have := HK1.out; have := HK2.out; omega
           case rel => exact ⟨(y873), (wrap64 (qO + 1)), zT, H', ⟨by have := HK1.out; have := HK2.out; omega⟩, ⟨lR qr⟩, ⟨zb qB⟩, ⟨zB HB⟩⟩
          ·rw [if_neg c34] at H
           exact absurd H (by simp)
         ·rw [if_neg c33] at H
          exact absurd H (by simp)
        ·rw [if_neg c32] at H
         have c32b0 := decide_eq_false c32
         clear c32
         obtain rfl := Option.some.inj H
         have q4 := zc4 qB.out
         have q5 := fun i_ : Nat => blk_frozen qB.out i_
         go_wp2
         go_ret
         exact ⟨_, zE, by apply rX; exact qK.out, zB HB⟩
     ·rw [if_neg c29] at H
      exact absurd H (by simp)
 ·rw [if_neg c3] at H
  exact absurd H (by simp)

end Go.Proofs.Ytccbdcbeinkjgaa.XA
end

section
namespace Go.Proofs.Ytccbdcbeinkjgaa.XA
open Go.Proofs.Ytccbdcbeinkjgaa.Lift Go.RowKit Go.Proofs.YtccbdcbeinkjgaaW.PrintWords Go.Proofs.YtccbdcbeinkjgaaW.PrintLast Go.Proofs.YtccbdcbeinkjgaaW.PrintMore
attribute [local go_sem] max2_int min2_int max_two min_two max_three min_three max_four min_four
set_option linter.unusedVariables false
set_option linter.unusedSimpArgs false

/-! ### swageref17_check: function 44 -/
def swageref17_check.l0 : Nat → List Int → Int → Int → Option (Int)
 | 0, _, _, _ => none
 | k + 1, x0, x3, x4 => if x4 < (x0.length : Int) then (if 0 ≤ x4 then (swageref17_check.l0 k x0 (Int.tmod (wrap64 (x3 + (wrap64 ((wrap64 (x4 + 1)) * (wrap64 (rd x0 x4)))))) 65521) (wrap64 (x4 + 1))) else (none)) else (some x3)
def swageref17_check.f (k : Nat) (l0 : List Int) : Option (Int) := swageref17_check.l0 k l0 0 0
theorem swageref17_check.mono_l : ∀ k, (∀ y0 y1 y2, LeO (swageref17_check.l0 k y0 y1 y2) (swageref17_check.l0 (k + 1) y0 y1 y2))
 | 0 => fun _ _ _ r h => by simp [swageref17_check.l0] at h
 | k + 1 => by
  have ih0 := swageref17_check.mono_l k
  ·intro y0 y1 y2
   unfold swageref17_check.l0
   exact zM
theorem swageref17_check.mono : ∀ a0 k, LeO (swageref17_check.f k a0) (swageref17_check.f (k + 1) a0) := by
 intro a0 k
 have ih0 := swageref17_check.mono_l k
 unfold swageref17_check.f
 exact zM
set_option maxHeartbeats 8000000 in
set_option maxRecDepth 100000 in
theorem swageref17_check.calls (k : Nat) (A0 : Option Addr) (c0 : Nat) (l0 : List Int) (r : Int) (w : World) (hr0 : Kd.C (Kd.int .u8) w A0 l0.length l0) (hc0 : l0.length ≤ c0) (h : swageref17_check.f k l0 = some r) :
  Calls Try.prog 44 #[.slice A0 l0.length c0] w fun e w' => e = .returned (.int .i64 r) ∧ Drawn0 w w' := by
 have HR0 := aM hr0
 have HC0 := aM hc0
 clear hr0 hc0
 have H : (swageref17_check.l0 k l0 0 0) = some r := h
 clear h
 have H' := aM H
 clear H
 go_enter Try.func44, Try.ntmps44
 go_wp2
 go_loopg [3, 4] k (fun kq v3 v4 w' => ∃ (qB : Int) (qA : Int), v3 = .int .i64 qB ∧ v4 = .int .i64 qA ∧ Aside0 (swageref17_check.l0 kq l0 qB qA = some r) ∧ Aside0 (kq ≤ k) ∧ Drawn0 w w')
 case atStart => exact ⟨(0), (0), zT, zT, H', ⟨Nat.le_refl _⟩, by repeat (first | exact Drawn0.refl _ | apply Drawn0.step)⟩
 case round =>
  clear H'
  obtain ⟨qB, qA, rfl, rfl, HA, HK1, ⟨m1, rfl⟩⟩ := hrel
  cases gk with
  | zero => exact absurd HA.out (by simp [swageref17_check.l0])
  | succ k1 =>
   have H := HA.out
   clear HA
   simp only [swageref17_check.l0] at H
   by_cases c2 : qA < (l0.length : Int)
   ·rw [if_pos c2] at H
    have c2b0 := decide_eq_true c2
    clear c2
    by_cases c3 : 0 ≤ qA
    ·rw [if_pos c3] at H
     have c3b0 := decide_eq_true c3
     clear c3
     have H' := aM H
     clear H
     have p876 : 0 ≤ (qA : Int) := of_decide_eq_true za
     have q876 : qA < (l0.length : Int) := of_decide_eq_true za
     obtain ⟨ad876, e876, hx876_0⟩ := Kd.at_int HR0.out qA p876 q876
     cases e876
     replace p876 := eq_true p876
     replace q876 := eq_true q876
     go_wp2
     go_roundg k1
     case measure => have := HK1.out; omega
     case rel => exact ⟨(Int.tmod (wrap64 (qB + (wrap64 ((wrap64 (qA + 1)) * (wrap64 (rd l0 qA)))))) 65521), (wrap64 (qA + 1)), zT, zT, H', ⟨by have := HK1.out; omega⟩, by repeat (first | exact Drawn0.refl _ | apply Drawn0.step)⟩
    ·rw [if_neg c3] at H
     exact absurd H (by simp)
   ·rw [if_neg c2] at H
    have c2b0 := decide_eq_false c2
    clear c2
    obtain rfl := Option.some.inj H
    go_wp2
    go_ret
    exact ⟨zT, by repeat (first | exact Drawn0.refl _ | apply Drawn0.step)⟩

end Go.Proofs.Ytccbdcbeinkjgaa.XA
end
