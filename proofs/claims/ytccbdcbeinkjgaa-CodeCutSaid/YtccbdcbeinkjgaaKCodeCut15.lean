/- Part 15 of the proof of the law CodeCut for every input: words, walks and plain laws. No condition. -/
import Derived.Test.YtccbdcbeinkjgaaKCodeCut14
section
namespace Go.Proofs.Ytccbdcbeinkjgaa.XA
open Go.Proofs.Ytccbdcbeinkjgaa.Lift Go.RowKit Go.Proofs.YtccbdcbeinkjgaaW.PrintWords Go.Proofs.YtccbdcbeinkjgaaW.PrintLast Go.Proofs.YtccbdcbeinkjgaaW.PrintMore
attribute [local go_sem] max2_int min2_int max_two min_two max_three min_three max_four min_four
set_option linter.unusedVariables false
set_option linter.unusedSimpArgs false

/-! ### swagelaw17_same: function 18 -/
def swagelaw17_same.f (k : Nat) (qV : Int) (qW : Int) (qH : List (S48)) (qX : Int) (qY : Int) (qI : List (S63)) (qJ : List Int) (qZ : Int) (qa : Int) (qK : List (S63)) (qB : List Int) (qP : Int) (qQ : Int) (qC : List (S63)) (qD : List Int) (qb : Int) (qc : Int) (qL : List (S48)) (qd : Int) (qe : Int) (qM : List (S63)) (qN : List Int) (qf : Int) (qg : Int) (qO : List (S63)) (qE : List Int) (qR : Int) (qS : Int) (qF : List (S63)) (qG : List Int) : Option (Bool) := (swageref17_Same.f k qV qW qH qX qY qI qJ qZ qa qK qB qP qQ qC qD qb qc qL qd qe qM qN qf qg qO qE qR qS qF qG).bind fun qi => (some qi)
theorem swagelaw17_same.mono : ∀ a0 a1 a2 a3 a4 a5 a6 a7 a8 a9 a10 a11 a12 a13 a14 a15 a16 a17 a18 a19 a20 a21 a22 a23 a24 a25 a26 a27 a28 a29 k, LeO (swagelaw17_same.f k a0 a1 a2 a3 a4 a5 a6 a7 a8 a9 a10 a11 a12 a13 a14 a15 a16 a17 a18 a19 a20 a21 a22 a23 a24 a25 a26 a27 a28 a29) (swagelaw17_same.f (k + 1) a0 a1 a2 a3 a4 a5 a6 a7 a8 a9 a10 a11 a12 a13 a14 a15 a16 a17 a18 a19 a20 a21 a22 a23 a24 a25 a26 a27 a28 a29) := by
 intro a0 a1 a2 a3 a4 a5 a6 a7 a8 a9 a10 a11 a12 a13 a14 a15 a16 a17 a18 a19 a20 a21 a22 a23 a24 a25 a26 a27 a28 a29 k
 unfold swagelaw17_same.f
 have im0 := @swageref17_Same.mono; exact zM
set_option maxHeartbeats 8000000 in
set_option maxRecDepth 100000 in
theorem swagelaw17_same.calls (k : Nat) (qV : Int) (qW : Int) (qw : Option Addr) (qx : Nat) (qH : List (S48)) (qX : Int) (qY : Int) (qy : Option Addr) (qz : Nat) (qI : List (S63)) (q0 : Option Addr) (q1 : Nat) (qJ : List Int) (qZ : Int) (qa : Int) (q2 : Option Addr) (q3 : Nat) (qK : List (S63)) (qj : Option Addr) (qk : Nat) (qB : List Int) (qP : Int) (qQ : Int) (ql : Option Addr) (qm : Nat) (qC : List (S63)) (qn : Option Addr) (qo : Nat) (qD : List Int) (qb : Int) (qc : Int) (q4 : Option Addr) (q5 : Nat) (qL : List (S48)) (qd : Int) (qe : Int) (q6 : Option Addr) (q7 : Nat) (qM : List (S63)) (q8 : Option Addr) (q9 : Nat) (qN : List Int) (qf : Int) (qg : Int) (jA : Option Addr) (jB : Nat) (qO : List (S63)) (qp : Option Addr) (qq : Nat) (qE : List Int) (qR : Int) (qS : Int) (qr : Option Addr) (qs : Nat) (qF : List (S63)) (qt : Option Addr) (qu : Nat) (qG : List Int) (r : Bool) (w : World) (jQ : Kd.C k48 w qw qH.length qH) (jR : qH.length ≤ qx) (jS : Kd.C k63 w qy qI.length qI) (jT : qI.length ≤ qz) (jU : Kd.C (Kd.int .i64) w q0 qJ.length qJ) (jV : qJ.length ≤ q1) (jW : Kd.C k63 w q2 qK.length qK) (jX : qK.length ≤ q3) (jC : Kd.C (Kd.int .i64) w qj qB.length qB) (jD : qB.length ≤ qk) (jE : Kd.C k63 w ql qC.length qC) (jF : qC.length ≤ qm) (jG : Kd.C (Kd.int .i64) w qn qD.length qD) (jH : qD.length ≤ qo) (jY : Kd.C k48 w q4 qL.length qL) (jZ : qL.length ≤ q5) (ja : Kd.C k63 w q6 qM.length qM) (jb : qM.length ≤ q7) (jc : Kd.C (Kd.int .i64) w q8 qN.length qN) (jd : qN.length ≤ q9) (je : Kd.C k63 w jA qO.length qO) (jf : qO.length ≤ jB) (jI : Kd.C (Kd.int .i64) w qp qE.length qE) (jJ : qE.length ≤ qq) (jK : Kd.C k63 w qr qF.length qF) (jL : qF.length ≤ qs) (jM : Kd.C (Kd.int .i64) w qt qG.length qG) (jN : qG.length ≤ qu) (h : swagelaw17_same.f k qV qW qH qX qY qI qJ qZ qa qK qB qP qQ qC qD qb qc qL qd qe qM qN qf qg qO qE qR qS qF qG = some r) :
  Calls Try.prog 18 #[.agg #[.int .i64 qV, .int .i64 qW, .slice qw qH.length qx, .int .i64 qX, .int .i64 qY, .slice qy qI.length qz, .slice q0 qJ.length q1, .int .i64 qZ, .int .i64 qa, .slice q2 qK.length q3, .slice qj qB.length qk, .int .i64 qP, .int .i64 qQ, .slice ql qC.length qm, .slice qn qD.length qo], .agg #[.int .i64 qb, .int .i64 qc, .slice q4 qL.length q5, .int .i64 qd, .int .i64 qe, .slice q6 qM.length q7, .slice q8 qN.length q9, .int .i64 qf, .int .i64 qg, .slice jA qO.length jB, .slice qp qE.length qq, .int .i64 qR, .int .i64 qS, .slice qr qF.length qs, .slice qt qG.length qu]] w fun e w' => e = .returned (.bool r) ∧ Below w.heap.size w w' := by
 have hu28 := Try.underlying28
 have js := aM jQ
 have jt := aM jR
 clear jQ jR
 have ju := aM jS
 have jv := aM jT
 clear jS jT
 have jw := aM jU
 have jx := aM jV
 clear jU jV
 have jy := aM jW
 have jz := aM jX
 clear jW jX
 have jg := aM jC
 have jh := aM jD
 clear jC jD
 have ji := aM jE
 have jj := aM jF
 clear jE jF
 have jk := aM jG
 have jl := aM jH
 clear jG jH
 have j0 := aM jY
 have j1 := aM jZ
 clear jY jZ
 have j2 := aM ja
 have j3 := aM jb
 clear ja jb
 have j4 := aM jc
 have j5 := aM jd
 clear jc jd
 have j6 := aM je
 have j7 := aM jf
 clear je jf
 have jm := aM jI
 have jn := aM jJ
 clear jI jJ
 have jo := aM jK
 have jp := aM jL
 clear jK jL
 have jq := aM jM
 have jr := aM jN
 clear jM jN
 have HB := aM (Below.refl w.heap.size w)
 have H : ((swageref17_Same.f k qV qW qH qX qY qI qJ qZ qa qK qB qP qQ qC qD qb qc qL qd qe qM qN qf qg qO qE qR qS qF qG).bind fun qi => (some qi)) = some r := h
 clear h
 replace H := Option.bind_eq_some_iff.mp H
 obtain ⟨qi, A30, H⟩ := H
 replace H : (some qi) = some r := H
 have A3 := aM A30
 clear A30
 obtain rfl := Option.some.inj H
 go_enter Try.func18, Try.ntmps18
 go_wp2_with (first | ((with_reducible refine gate_dst (N := 2) rfl ?_); refine box_event rfl (N := 2) rfl (cs := #[.int .i64 qV, .int .i64 qW, .slice qw qH.length qx, .int .i64 qX, .int .i64 qY, .slice qy qI.length qz, .slice q0 qJ.length q1, .int .i64 qZ, .int .i64 qa, .slice q2 qK.length q3, .slice qj qB.length qk, .int .i64 qP, .int .i64 qQ, .slice ql qC.length qm, .slice qn qD.length qo]) (t := 28) zG ?_; intro qT hg w4 hbox hb; have qU := aM (hbox); have yC := aM ((by rw [hg]; exact (below_size (lB HB)) : w.heap.size ≤ qT)); have yD := aM ((by rw [hg]; exact (below_size (lB HB)) : w.heap.size ≤ qT)); replace HB := aM (below_step (lB HB) hb); clear hb hbox hg) | ((with_reducible refine gate_dst (N := 3) rfl ?_); refine box_event rfl (N := 3) rfl (cs := #[.int .i64 qb, .int .i64 qc, .slice q4 qL.length q5, .int .i64 qd, .int .i64 qe, .slice q6 qM.length q7, .slice q8 qN.length q9, .int .i64 qf, .int .i64 qg, .slice jA qO.length jB, .slice qp qE.length qq, .int .i64 qR, .int .i64 qS, .slice qr qF.length qs, .slice qt qG.length qu]) (t := 28) zG ?_; intro qh hg w5 hbox hb; have qv := aM (hbox); have yE := aM ((by rw [hg]; exact (below_size (zB HB)) : w.heap.size ≤ qh)); have yF := aM ((by rw [hg]; exact (below_size (zB HB)) : w.heap.size ≤ qh)); replace HB := aM (below_step (zB HB) hb); have jO := aM ((by rw [hg]; exact Nat.ne_of_lt (blk_lt (g := qT) (lK qU)) : qT ≠ qh)); have jP := aM ((by rw [hg]; exact Nat.ne_of_gt (blk_lt (g := qT) (lK qU)) : qh ≠ qT)); replace qU := aM (blk_below (g := qT) (lK qU) hb); clear hb hbox hg; have yG := jO.out; have yH := jP.out; have j8 := zc15 qU.out; have j9 := fun i_ : Nat => blk_frozen qU.out i_; have yA := zc15 qv.out; have yB := fun i_ : Nat => blk_frozen qv.out i_) | ((with_reducible refine gate_callee (f := 25) rfl ?_); refine goesL_ (some 7) rfl rfl Try.func25 zk rfl #[.agg #[.int .i64 qV, .int .i64 qW, .slice qw qH.length qx, .int .i64 qX, .int .i64 qY, .slice qy qI.length qz, .slice q0 qJ.length q1, .int .i64 qZ, .int .i64 qa, .slice q2 qK.length q3, .slice qj qB.length qk, .int .i64 qP, .int .i64 qQ, .slice ql qC.length qm, .slice qn qD.length qo], .agg #[.int .i64 qb, .int .i64 qc, .slice q4 qL.length q5, .int .i64 qd, .int .i64 qe, .slice q6 qM.length q7, .slice q8 qN.length q9, .int .i64 qf, .int .i64 qg, .slice jA qO.length jB, .slice qp qE.length qq, .int .i64 qR, .int .i64 qS, .slice qr qF.length qs, .slice qt qG.length qu]] rfl zA ?_; (with_reducible refine (swageref17_Same.calls k qV qW _ _ qH qX qY _ _ qI _ _ qJ qZ qa _ _ qK _ _ qB qP qQ _ _ qC _ _ qD qb qc _ _ qL qd qe _ _ qM _ _ qN qf qg _ _ qO _ _ qE qR qS _ _ qF _ _ qG qi _ ?side1 ?side2 ?side3 ?side4 ?side5 ?side6 ?side7 ?side8 ?side9 ?side10 ?side11 ?side12 ?side13 ?side14 ?side15 ?side16 ?side17 ?side18 ?side19 ?side20 ?side21 ?side22 ?side23 ?side24 ?side25 ?side26 ?side27 ?side28 A3.out).mono ?_); (case side1 => refine lY ?_; exact (Kd.C_below js.out HB.out)); (case side2 => exact jt.out); (case side3 => refine lY ?_; exact (Kd.C_below ju.out HB.out)); (case side4 => exact jv.out); (case side5 => refine lY ?_; exact (Kd.C_below jw.out HB.out)); (case side6 => exact jx.out); (case side7 => refine lY ?_; exact (Kd.C_below jy.out HB.out)); (case side8 => exact jz.out); (case side9 => refine lY ?_; exact (Kd.C_below jg.out HB.out)); (case side10 => exact jh.out); (case side11 => refine lY ?_; exact (Kd.C_below ji.out HB.out)); (case side12 => exact jj.out); (case side13 => refine lY ?_; exact (Kd.C_below jk.out HB.out)); (case side14 => exact jl.out); (case side15 => refine lY ?_; exact (Kd.C_below j0.out HB.out)); (case side16 => exact j1.out); (case side17 => refine lY ?_; exact (Kd.C_below j2.out HB.out)); (case side18 => exact j3.out); (case side19 => refine lY ?_; exact (Kd.C_below j4.out HB.out)); (case side20 => exact j5.out); (case side21 => refine lY ?_; exact (Kd.C_below j6.out HB.out)); (case side22 => exact j7.out); (case side23 => refine lY ?_; exact (Kd.C_below jm.out HB.out)); (case side24 => exact jn.out); (case side25 => refine lY ?_; exact (Kd.C_below jo.out HB.out)); (case side26 => exact jp.out); (case side27 => refine lY ?_; exact (Kd.C_below jq.out HB.out)); (case side28 => exact jr.out); rintro e w9 ⟨rfl, hb⟩; refine ⟨_, rfl, ?_⟩; replace qU := aM (blk_below (g := qT) (lK qU) hb); replace qv := aM (blk_below (g := qh) (lK qv) hb); replace HB := aM (below_step (zB HB) hb); (try clear hb)))
 go_ret
 exact ⟨zE, zB HB⟩

/-! ### slices_Equal_byte_byte: function 22 -/
def slices_Equal_byte_byte.l0 : Nat → List Int → List Int → Int → Int → Option (Bool)
 | 0, _, _, _, _ => none
 | k + 1, x0, x1, x12, x13 => if x13 < x12 then (if 0 ≤ x13 then (if x13 < (x0.length : Int) then (if x13 < (x1.length : Int) then (if (rd x0 x13) = (rd x1 x13) then (slices_Equal_byte_byte.l0 k x0 x1 x12 (wrap64 (x13 + 1))) else (some false)) else (none)) else (none)) else (none)) else (some true)
def slices_Equal_byte_byte.f (k : Nat) (l0 : List Int) (l1 : List Int) : Option (Bool) := if (l0.length : Int) = (l1.length : Int) then (slices_Equal_byte_byte.l0 k l0 l1 (l0.length : Int) 0) else (some false)
theorem slices_Equal_byte_byte.mono_l : ∀ k, (∀ y0 y1 y2 y3, LeO (slices_Equal_byte_byte.l0 k y0 y1 y2 y3) (slices_Equal_byte_byte.l0 (k + 1) y0 y1 y2 y3))
 | 0 => fun _ _ _ _ r h => by simp [slices_Equal_byte_byte.l0] at h
 | k + 1 => by
  have ih0 := slices_Equal_byte_byte.mono_l k
  ·intro y0 y1 y2 y3
   unfold slices_Equal_byte_byte.l0
   exact zM
theorem slices_Equal_byte_byte.mono : ∀ a0 a1 k, LeO (slices_Equal_byte_byte.f k a0 a1) (slices_Equal_byte_byte.f (k + 1) a0 a1) := by
 intro a0 a1 k
 have ih0 := slices_Equal_byte_byte.mono_l k
 unfold slices_Equal_byte_byte.f
 exact zM
set_option maxHeartbeats 8000000 in
set_option maxRecDepth 100000 in
theorem slices_Equal_byte_byte.calls (k : Nat) (A0 : Option Addr) (c0 : Nat) (l0 : List Int) (A1 : Option Addr) (c1 : Nat) (l1 : List Int) (r : Bool) (w : World) (hr0 : Kd.C (Kd.int .u8) w A0 l0.length l0) (hc0 : l0.length ≤ c0) (hr1 : Kd.C (Kd.int .u8) w A1 l1.length l1) (hc1 : l1.length ≤ c1) (h : slices_Equal_byte_byte.f k l0 l1 = some r) :
  Calls Try.prog 22 #[.slice A0 l0.length c0, .slice A1 l1.length c1] w fun e w' => e = .returned (.bool r) ∧ Drawn0 w w' := by
 have HR0 := aM hr0
 have HC0 := aM hc0
 clear hr0 hc0
 have HR1 := aM hr1
 have HC1 := aM hc1
 clear hr1 hc1
 have H : (if (l0.length : Int) = (l1.length : Int) then (slices_Equal_byte_byte.l0 k l0 l1 (l0.length : Int) 0) else (some false)) = some r := h
 clear h
 by_cases c3 : (l0.length : Int) = (l1.length : Int)
 ·rw [if_pos c3] at H
  have c3b0 : ((l0.length : Int) == (l1.length : Int)) = true := beq_iff_eq.mpr c3
  have c3b1 : ((l0.length : Int) != (l1.length : Int)) = false := bne_eq_false_iff_eq.mpr c3
  have c3b2 : (l0.length == l1.length) = true := by first | simpa using c3 | (simp at c3 ⊢; omega)
  clear c3
  have H' := aM H
  clear H
  go_enter Try.func22, Try.ntmps22
  go_wp2
  repeat (go_quiet (fail); try go_wp2)
  go_loopg [13] k (fun kq v13 w' => ∃ (qA : Int), v13 = .int .i64 qA ∧ Aside0 (slices_Equal_byte_byte.l0 kq l0 l1 (l0.length : Int) qA = some r) ∧ Aside0 (kq ≤ k) ∧ Drawn0 w w')
  case atStart => exact ⟨(0), zT, H', ⟨Nat.le_refl _⟩, by repeat (first | exact Drawn0.refl _ | apply Drawn0.step)⟩
  case round =>
   clear H'
   try clear c1
   try clear c3
   obtain ⟨qA, rfl, HA, HK1, ⟨m1, rfl⟩⟩ := hrel
   cases gk with
   | zero => exact absurd HA.out (by simp [slices_Equal_byte_byte.l0])
   | succ k1 =>
    have H := HA.out
    clear HA
    simp only [slices_Equal_byte_byte.l0] at H
    by_cases c4 : qA < (l0.length : Int)
    ·rw [if_pos c4] at H
     have c4b0 := decide_eq_true c4
     clear c4
     by_cases c5 : 0 ≤ qA
     ·rw [if_pos c5] at H
      have c5b0 := decide_eq_true c5
      clear c5
      by_cases c6 : qA < (l0.length : Int)
      ·rw [if_pos c6] at H
       have c6b0 := decide_eq_true c6
       clear c6
       by_cases c7 : qA < (l1.length : Int)
       ·rw [if_pos c7] at H
        have c7b0 := decide_eq_true c7
        clear c7
        by_cases c8 : (rd l0 qA) = (rd l1 qA)
        ·rw [if_pos c8] at H
         have c8b0 : ((rd l0 qA) == (rd l1 qA)) = true := beq_iff_eq.mpr c8
         have c8b1 : ((rd l0 qA) != (rd l1 qA)) = false := bne_eq_false_iff_eq.mpr c8
         clear c8
         have H' := aM H
         clear H
         have p459 : 0 ≤ (qA : Int) := of_decide_eq_true za
         have q459 : qA < (l0.length : Int) := of_decide_eq_true za
         obtain ⟨ad459, e459, hx459_0⟩ := Kd.at_int HR0.out qA p459 q459
         cases e459
         replace p459 := eq_true p459
         replace q459 := eq_true q459
         have p460 : 0 ≤ (qA : Int) := of_decide_eq_true za
         have q460 : qA < (l1.length : Int) := of_decide_eq_true za
         obtain ⟨ad460, e460, hx460_0⟩ := Kd.at_int HR1.out qA p460 q460
         cases e460
         replace p460 := eq_true p460
         replace q460 := eq_true q460
         go_wp2
         repeat (go_quiet (fail); try go_wp2)
         go_roundg k1
         case measure => have := HK1.out; omega
         case rel => exact ⟨(wrap64 (qA + 1)), zT, H', ⟨by have := HK1.out; omega⟩, by repeat (first | exact Drawn0.refl _ | apply Drawn0.step)⟩
        ·rw [if_neg c8] at H
         have c8b0 : ((rd l0 qA) == (rd l1 qA)) = false := beq_eq_false_iff_ne.mpr c8
         have c8b1 : ((rd l0 qA) != (rd l1 qA)) = true := bne_iff_ne.mpr c8
         obtain rfl := Option.some.inj H
         have p459 : 0 ≤ (qA : Int) := of_decide_eq_true za
         have q459 : qA < (l0.length : Int) := of_decide_eq_true za
         obtain ⟨ad459, e459, hx459_0⟩ := Kd.at_int HR0.out qA p459 q459
         cases e459
         replace p459 := eq_true p459
         replace q459 := eq_true q459
         have p460 : 0 ≤ (qA : Int) := of_decide_eq_true za
         have q460 : qA < (l1.length : Int) := of_decide_eq_true za
         obtain ⟨ad460, e460, hx460_0⟩ := Kd.at_int HR1.out qA p460 q460
         cases e460
         replace p460 := eq_true p460
         replace q460 := eq_true q460
         go_wp2
         repeat (go_quiet (fail); try go_wp2)
         go_ret
         exact ⟨zT, by repeat (first | exact Drawn0.refl _ | apply Drawn0.step)⟩
       ·rw [if_neg c7] at H
        exact absurd H (by simp)
      ·rw [if_neg c6] at H
       exact absurd H (by simp)
     ·rw [if_neg c5] at H
      exact absurd H (by simp)
    ·rw [if_neg c4] at H
     have c4b0 := decide_eq_false c4
     clear c4
     obtain rfl := Option.some.inj H
     go_wp2
     repeat (go_quiet (fail); try go_wp2)
     go_ret
     exact ⟨zT, by repeat (first | exact Drawn0.refl _ | apply Drawn0.step)⟩
 ·rw [if_neg c3] at H
  have c3b0 : ((l0.length : Int) == (l1.length : Int)) = false := beq_eq_false_iff_ne.mpr c3
  have c3b1 : ((l0.length : Int) != (l1.length : Int)) = true := bne_iff_ne.mpr c3
  have c3b2 : (l0.length == l1.length) = false := by first | simpa using c3 | (simp at c3 ⊢; omega)
  obtain rfl := Option.some.inj H
  go_enter Try.func22, Try.ntmps22
  go_wp2
  repeat (go_quiet (fail); try go_wp2)
  go_ret
  exact ⟨zT, by repeat (first | exact Drawn0.refl _ | apply Drawn0.step)⟩

end Go.Proofs.Ytccbdcbeinkjgaa.XA
end
