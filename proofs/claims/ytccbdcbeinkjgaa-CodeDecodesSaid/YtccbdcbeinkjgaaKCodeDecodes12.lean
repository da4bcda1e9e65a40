/- Part 12 of the proof of the law CodeDecodes for every input: words, walks and plain laws. No condition. -/
import Derived.Test.YtccbdcbeinkjgaaKCodeDecodes11
set_option linter.unusedVariables false
set_option linter.unusedSimpArgs false
set_option maxHeartbeats 8000000
set_option maxRecDepth 100000
section
namespace Go.Proofs.Ytccbdcbeinkjgaa.XA
open Go.Proofs.Ytccbdcbeinkjgaa.Lift Go.RowKit Go.Proofs.YtccbdcbeinkjgaaW.PrintWords Go.Proofs.YtccbdcbeinkjgaaW.PrintLast Go.Proofs.YtccbdcbeinkjgaaW.PrintMore
attribute [local go_sem] max2_int min2_int max_two min_two max_three min_three max_four min_four
def sL_same.f (k : Nat) (qV : Int) (qW : Int) (qH : List (S48)) (qX : Int) (qY : Int) (qI : List (S63)) (qJ : List Int) (qZ : Int) (qa : Int) (qK : List (S63)) (qB : List Int) (qP : Int) (qQ : Int) (qC : List (S63)) (qD : List Int) (qb : Int) (qc : Int) (qL : List (S48)) (qd : Int) (qe : Int) (qM : List (S63)) (qN : List Int) (qf : Int) (qg : Int) (qO : List (S63)) (qE : List Int) (qR : Int) (qS : Int) (qF : List (S63)) (qG : List Int) : Option (Bool) := (sR_Same.f k qV qW qH qX qY qI qJ qZ qa qK qB qP qQ qC qD qb qc qL qd qe qM qN qf qg qO qE qR qS qF qG).bind fun qi => (some qi)
theorem sL_same.mono : ∀ a0 a1 a2 a3 a4 a5 a6 a7 a8 a9 a10 a11 a12 a13 a14 a15 a16 a17 a18 a19 a20 a21 a22 a23 a24 a25 a26 a27 a28 a29 k, LeO (sL_same.f k a0 a1 a2 a3 a4 a5 a6 a7 a8 a9 a10 a11 a12 a13 a14 a15 a16 a17 a18 a19 a20 a21 a22 a23 a24 a25 a26 a27 a28 a29) (sL_same.f (k + 1) a0 a1 a2 a3 a4 a5 a6 a7 a8 a9 a10 a11 a12 a13 a14 a15 a16 a17 a18 a19 a20 a21 a22 a23 a24 a25 a26 a27 a28 a29) := by
 intro a0 a1 a2 a3 a4 a5 a6 a7 a8 a9 a10 a11 a12 a13 a14 a15 a16 a17 a18 a19 a20 a21 a22 a23 a24 a25 a26 a27 a28 a29 k
 unfold sL_same.f
 have im0 := @sR_Same.mono; exact zM
theorem sL_same.calls (k : Nat) (qV : Int) (qW : Int) (qw : Option Addr) (qx : Nat) (qH : List (S48)) (qX : Int) (qY : Int) (qy : Option Addr) (qz : Nat) (qI : List (S63)) (q0 : Option Addr) (q1 : Nat) (qJ : List Int) (qZ : Int) (qa : Int) (q2 : Option Addr) (q3 : Nat) (qK : List (S63)) (qj : Option Addr) (qk : Nat) (qB : List Int) (qP : Int) (qQ : Int) (ql : Option Addr) (qm : Nat) (qC : List (S63)) (qn : Option Addr) (qo : Nat) (qD : List Int) (qb : Int) (qc : Int) (q4 : Option Addr) (q5 : Nat) (qL : List (S48)) (qd : Int) (qe : Int) (q6 : Option Addr) (q7 : Nat) (qM : List (S63)) (q8 : Option Addr) (q9 : Nat) (qN : List Int) (qf : Int) (qg : Int) (jA : Option Addr) (jB : Nat) (qO : List (S63)) (qp : Option Addr) (qq : Nat) (qE : List Int) (qR : Int) (qS : Int) (qr : Option Addr) (qs : Nat) (qF : List (S63)) (qt : Option Addr) (qu : Nat) (qG : List Int) (r : Bool) (w : World) (jQ : Kd.C k48 w qw qH.length qH) (jR : qH.length ≤ qx) (jS : Kd.C k63 w qy qI.length qI) (jT : qI.length ≤ qz) (jU : Kd.C (Kd.int .i64) w q0 qJ.length qJ) (jV : qJ.length ≤ q1) (jW : Kd.C k63 w q2 qK.length qK) (jX : qK.length ≤ q3) (jC : Kd.C (Kd.int .i64) w qj qB.length qB) (jD : qB.length ≤ qk) (jE : Kd.C k63 w ql qC.length qC) (jF : qC.length ≤ qm) (jG : Kd.C (Kd.int .i64) w qn qD.length qD) (jH : qD.length ≤ qo) (jY : Kd.C k48 w q4 qL.length qL) (jZ : qL.length ≤ q5) (ja : Kd.C k63 w q6 qM.length qM) (jb : qM.length ≤ q7) (jc : Kd.C (Kd.int .i64) w q8 qN.length qN) (jd : qN.length ≤ q9) (je : Kd.C k63 w jA qO.length qO) (jf : qO.length ≤ jB) (jI : Kd.C (Kd.int .i64) w qp qE.length qE) (jJ : qE.length ≤ qq) (jK : Kd.C k63 w qr qF.length qF) (jL : qF.length ≤ qs) (jM : Kd.C (Kd.int .i64) w qt qG.length qG) (jN : qG.length ≤ qu) (h : sL_same.f k qV qW qH qX qY qI qJ qZ qa qK qB qP qQ qC qD qb qc qL qd qe qM qN qf qg qO qE qR qS qF qG = some r) :
  Calls Try.prog 18 #[.agg #[.int .i64 qV, .int .i64 qW, .slice qw qH.length qx, .int .i64 qX, .int .i64 qY, .slice qy qI.length qz, .slice q0 qJ.length q1, .int .i64 qZ, .int .i64 qa, .slice q2 qK.length q3, .slice qj qB.length qk, .int .i64 qP, .int .i64 qQ, .slice ql qC.length qm, .slice qn qD.length qo], .agg #[.int .i64 qb, .int .i64 qc, .slice q4 qL.length q5, .int .i64 qd, .int .i64 qe, .slice q6 qM.length q7, .slice q8 qN.length q9, .int .i64 qf, .int .i64 qg, .slice jA qO.length jB, .slice qp qE.length qq, .int .i64 qR, .int .i64 qS, .slice qr qF.length qs, .slice qt qG.length qu]] w fun e w' => e = .returned (.bool r) ∧ Below w.heap.size w w' := by
 have hu28 := Try.underlying28
 have js := aM jQ
 have jt := aM jR
 clear jQ jR
 have ju := aM jS
 have jv := aM jT
 clear jS jT
 have jw := aM jU
 have jx := aM jV
 clear jU jV
 have jy := aM jW
 have jz := aM jX
 clear jW jX
 have jg := aM jC
 have jh := aM jD
 clear jC jD
 have ji := aM jE
 have jj := aM jF
 clear jE jF
 have jk := aM jG
 have jl := aM jH
 clear jG jH
 have j0 := aM jY
 have j1 := aM jZ
 clear jY jZ
 have j2 := aM ja
 have j3 := aM jb
 clear ja jb
 have j4 := aM jc
 have j5 := aM jd
 clear jc jd
 have j6 := aM je
 have j7 := aM jf
 clear je jf
 have jm := aM jI
 have jn := aM jJ
 clear jI jJ
 have jo := aM jK
 have jp := aM jL
 clear jK jL
 have jq := aM jM
 have jr := aM jN
 clear jM jN
 have HB := aM (Below.refl w.heap.size w)
 have H : ((sR_Same.f k qV qW qH qX qY qI qJ qZ qa qK qB qP qQ qC qD qb qc qL qd qe qM qN qf qg qO qE qR qS qF qG).bind fun qi => (some qi)) = some r := h
 clear h
 replace H := zbs H
 obtain ⟨qi, A30, H⟩ := H
 replace H : (some qi) = some r := H
 have A3 := aM A30
 clear A30
 obtain rfl := Option.some.inj H
 go_enter Try.func18, Try.ntmps18
 go_wp2_with (first | ((with_reducible refine gate_dst (N := 2) rfl ?_); refine z16_ rfl (N := 2) rfl (cs := #[.int .i64 qV, .int .i64 qW, .slice qw qH.length qx, .int .i64 qX, .int .i64 qY, .slice qy qI.length qz, .slice q0 qJ.length q1, .int .i64 qZ, .int .i64 qa, .slice q2 qK.length q3, .slice qj qB.length qk, .int .i64 qP, .int .i64 qQ, .slice ql qC.length qm, .slice qn qD.length qo]) (t := 28) zG ?_; intro qT hg w4 hbox hb; have qU := aM (hbox); have yC := aM ((by rw [hg]; exact (z4_ (lB HB)) : w.heap.size ≤ qT)); have yD := aM ((by rw [hg]; exact (z4_ (lB HB)) : w.heap.size ≤ qT)); replace HB := aM (z6_ (lB HB) hb); clear hb hbox hg) | ((with_reducible refine gate_dst (N := 3) rfl ?_); refine z16_ rfl (N := 3) rfl (cs := #[.int .i64 qb, .int .i64 qc, .slice q4 qL.length q5, .int .i64 qd, .int .i64 qe, .slice q6 qM.length q7, .slice q8 qN.length q9, .int .i64 qf, .int .i64 qg, .slice jA qO.length jB, .slice qp qE.length qq, .int .i64 qR, .int .i64 qS, .slice qr qF.length qs, .slice qt qG.length qu]) (t := 28) zG ?_; intro qh hg w5 hbox hb; have qv := aM (hbox); have yE := aM ((by rw [hg]; exact (z4_ (zB HB)) : w.heap.size ≤ qh)); have yF := aM ((by rw [hg]; exact (z4_ (zB HB)) : w.heap.size ≤ qh)); replace HB := aM (z6_ (zB HB) hb); have jO := aM ((by rw [hg]; exact Nat.ne_of_lt (z19_ (g := qT) (lK qU)) : qT ≠ qh)); have jP := aM ((by rw [hg]; exact Nat.ne_of_gt (z19_ (g := qT) (lK qU)) : qh ≠ qT)); replace qU := aM (z5_ (g := qT) (lK qU) hb); clear hb hbox hg; have yG := jO.out; have yH := jP.out; have j8 := zc15 qU.out; have j9 := fun i_ : Nat => z1_ qU.out i_; have yA := zc15 qv.out; have yB := fun i_ : Nat => z1_ qv.out i_) | ((with_reducible refine gate_callee (f := 25) rfl ?_); refine z13_ (some 7) rfl rfl Try.func25 zk rfl #[.agg #[.int .i64 qV, .int .i64 qW, .slice qw qH.length qx, .int .i64 qX, .int .i64 qY, .slice qy qI.length qz, .slice q0 qJ.length q1, .int .i64 qZ, .int .i64 qa, .slice q2 qK.length q3, .slice qj qB.length qk, .int .i64 qP, .int .i64 qQ, .slice ql qC.length qm, .slice qn qD.length qo], .agg #[.int .i64 qb, .int .i64 qc, .slice q4 qL.length q5, .int .i64 qd, .int .i64 qe, .slice q6 qM.length q7, .slice q8 qN.length q9, .int .i64 qf, .int .i64 qg, .slice jA qO.length jB, .slice qp qE.length qq, .int .i64 qR, .int .i64 qS, .slice qr qF.length qs, .slice qt qG.length qu]] rfl zA ?_; (with_reducible refine (sR_Same.calls k qV qW _ _ qH qX qY _ _ qI _ _ qJ qZ qa _ _ qK _ _ qB qP qQ _ _ qC _ _ qD qb qc _ _ qL qd qe _ _ qM _ _ qN qf qg _ _ qO _ _ qE qR qS _ _ qF _ _ qG qi _ ?side1 ?side2 ?side3 ?side4 ?side5 ?side6 ?side7 ?side8 ?side9 ?side10 ?side11 ?side12 ?side13 ?side14 ?side15 ?side16 ?side17 ?side18 ?side19 ?side20 ?side21 ?side22 ?side23 ?side24 ?side25 ?side26 ?side27 ?side28 A3.out).mono ?_); (case side1 => refine lY ?_; exact (Kd.z8_ js.out HB.out)); (case side2 => exact jt.out); (case side3 => refine lY ?_; exact (Kd.z8_ ju.out HB.out)); (case side4 => exact jv.out); (case side5 => refine lY ?_; exact (Kd.z8_ jw.out HB.out)); (case side6 => exact jx.out); (case side7 => refine lY ?_; exact (Kd.z8_ jy.out HB.out)); (case side8 => exact jz.out); (case side9 => refine lY ?_; exact (Kd.z8_ jg.out HB.out)); (case side10 => exact jh.out); (case side11 => refine lY ?_; exact (Kd.z8_ ji.out HB.out)); (case side12 => exact jj.out); (case side13 => refine lY ?_; exact (Kd.z8_ jk.out HB.out)); (case side14 => exact jl.out); (case side15 => refine lY ?_; exact (Kd.z8_ j0.out HB.out)); (case side16 => exact j1.out); (case side17 => refine lY ?_; exact (Kd.z8_ j2.out HB.out)); (case side18 => exact j3.out); (case side19 => refine lY ?_; exact (Kd.z8_ j4.out HB.out)); (case side20 => exact j5.out); (case side21 => refine lY ?_; exact (Kd.z8_ j6.out HB.out)); (case side22 => exact j7.out); (case side23 => refine lY ?_; exact (Kd.z8_ jm.out HB.out)); (case side24 => exact jn.out); (case side25 => refine lY ?_; exact (Kd.z8_ jo.out HB.out)); (case side26 => exact jp.out); (case side27 => refine lY ?_; exact (Kd.z8_ jq.out HB.out)); (case side28 => exact jr.out); rintro e w9 ⟨rfl, hb⟩; refine ⟨_, rfl, ?_⟩; replace qU := aM (z5_ (g := qT) (lK qU) hb); replace qv := aM (z5_ (g := qh) (lK qv) hb); replace HB := aM (z6_ (zB HB) hb); (try clear hb)))
 go_ret
 exact ⟨zE, zB HB⟩
def slices_Equal_byte_byte.l0 : Nat → List Int → List Int → Int → Int → Option (Bool)
 | 0, _, _, _, _ => none
 | k + 1, x0, x1, x12, x13 => if x13 < x12 then (if 0 ≤ x13 then (if x13 < (x0.length : Int) then (if x13 < (x1.length : Int) then (if (rd x0 x13) = (rd x1 x13) then (slices_Equal_byte_byte.l0 k x0 x1 x12 (wrap64 (x13 + 1))) else (some false)) else (none)) else (none)) else (none)) else (some true)
def slices_Equal_byte_byte.f (k : Nat) (l0 : List Int) (l1 : List Int) : Option (Bool) := if (l0.length : Int) = (l1.length : Int) then (slices_Equal_byte_byte.l0 k l0 l1 (l0.length : Int) 0) else (some false)
theorem slices_Equal_byte_byte.mono_l : ∀ k, (∀ y0 y1 y2 y3, LeO (slices_Equal_byte_byte.l0 k y0 y1 y2 y3) (slices_Equal_byte_byte.l0 (k + 1) y0 y1 y2 y3))
 | 0 => fun _ _ _ _ r h => by simp [slices_Equal_byte_byte.l0] at h
 | k + 1 => by
  have ih0 := slices_Equal_byte_byte.mono_l k
  ·intro y0 y1 y2 y3
   unfold slices_Equal_byte_byte.l0
   exact zM
theorem slices_Equal_byte_byte.mono : ∀ a0 a1 k, LeO (slices_Equal_byte_byte.f k a0 a1) (slices_Equal_byte_byte.f (k + 1) a0 a1) := by
 intro a0 a1 k
 have ih0 := slices_Equal_byte_byte.mono_l k
 unfold slices_Equal_byte_byte.f
 exact zM
theorem slices_Equal_byte_byte.calls (k : Nat) (A0 : Option Addr) (c0 : Nat) (l0 : List Int) (A1 : Option Addr) (c1 : Nat) (l1 : List Int) (r : Bool) (w : World) (hr0 : Kd.C (Kd.int .u8) w A0 l0.length l0) (hc0 : l0.length ≤ c0) (hr1 : Kd.C (Kd.int .u8) w A1 l1.length l1) (hc1 : l1.length ≤ c1) (h : slices_Equal_byte_byte.f k l0 l1 = some r) :
  Calls Try.prog 22 #[.slice A0 l0.length c0, .slice A1 l1.length c1] w fun e w' => e = .returned (.bool r) ∧ Drawn0 w w' := by
 have HR0 := aM hr0
 have HC0 := aM hc0
 clear hr0 hc0
 have HR1 := aM hr1
 have HC1 := aM hc1
 clear hr1 hc1
 have H : (if (l0.length : Int) = (l1.length : Int) then (slices_Equal_byte_byte.l0 k l0 l1 (l0.length : Int) 0) else (some false)) = some r := h
 clear h
 by_cases c3 : (l0.length : Int) = (l1.length : Int)
 ·rw [if_pos c3] at H
  have c3b0 : ((l0.length : Int) == (l1.length : Int)) = true := beq_iff_eq.mpr c3
  have c3b1 : ((l0.length : Int) != (l1.length : Int)) = false := bne_eq_false_iff_eq.mpr c3
  have c3b2 : (l0.length == l1.length) = true := by first | simpa using c3 | (simp at c3 ⊢; omega)
  clear c3
  have H' := aM H
  clear H
  go_enter Try.func22, Try.ntmps22
  go_wp2
  repeat (go_quiet (fail); try go_wp2)
  go_loopg [13] k (fun kq v13 w' => ∃ (qA : Int), v13 = .int .i64 qA ∧ Aside0 (slices_Equal_byte_byte.l0 kq l0 l1 (l0.length : Int) qA = some r) ∧ Aside0 (kq ≤ k) ∧ Drawn0 w w')
  case atStart => exact ⟨(0), zT, H', ⟨Nat.le_refl _⟩, by repeat (first | exact Drawn0.refl _ | apply Drawn0.step)⟩
  case round =>
   clear H'
   try clear c1
   try clear c3
   obtain ⟨qA, rfl, HA, HK1, ⟨m1, rfl⟩⟩ := hrel
   cases gk with
   | zero => exact absurd HA.out (by simp [slices_Equal_byte_byte.l0])
   | succ k1 =>
    have H := HA.out
    clear HA
    simp only [slices_Equal_byte_byte.l0] at H
    by_cases c4 : qA < (l0.length : Int)
    ·rw [if_pos c4] at H
     have c4b0 := decide_eq_true c4
     clear c4
     by_cases c5 : 0 ≤ qA
     ·rw [if_pos c5] at H
      have c5b0 := decide_eq_true c5
      clear c5
      by_cases c6 : qA < (l0.length : Int)
      ·rw [if_pos c6] at H
       have c6b0 := decide_eq_true c6
       clear c6
       by_cases c7 : qA < (l1.length : Int)
       ·rw [if_pos c7] at H
        have c7b0 := decide_eq_true c7
        clear c7
        by_cases c8 : (rd l0 qA) = (rd l1 qA)
        ·rw [if_pos c8] at H
         have c8b0 : ((rd l0 qA) == (rd l1 qA)) = true := beq_iff_eq.mpr c8
         have c8b1 : ((rd l0 qA) != (rd l1 qA)) = false := bne_eq_false_iff_eq.mpr c8
         clear c8
         have H' := aM H
         clear H
         have p459 : 0 ≤ (qA : Int) := of_decide_eq_true za
         have q459 : qA < (l0.length : Int) := of_decide_eq_true za
         obtain ⟨ad459, e459, hx459_0⟩ := Kd.at_int HR0.out qA p459 q459
         cases e459
         replace p459 := eq_true p459
         replace q459 := eq_true q459
         have p460 : 0 ≤ (qA : Int) := of_decide_eq_true za
         have q460 : qA < (l1.length : Int) := of_decide_eq_true za
         obtain ⟨ad460, e460, hx460_0⟩ := Kd.at_int HR1.out qA p460 q460
         cases e460
         replace p460 := eq_true p460
         replace q460 := eq_true q460
         go_wp2
         repeat (go_quiet (fail); try go_wp2)
         go_roundg k1
         case measure => have := HK1.out; omega
         case rel => exact ⟨(wrap64 (qA + 1)), zT, H', ⟨by have := HK1.out; omega⟩, by repeat (first | exact Drawn0.refl _ | apply Drawn0.step)⟩
        ·rw [if_neg c8] at H
         have c8b0 : ((rd l0 qA) == (rd l1 qA)) = false := beq_eq_false_iff_ne.mpr c8
         have c8b1 : ((rd l0 qA) != (rd l1 qA)) = true := bne_iff_ne.mpr c8
         obtain rfl := Option.some.inj H
         have p459 : 0 ≤ (qA : Int) := of_decide_eq_true za
         have q459 : qA < (l0.length : Int) := of_decide_eq_true za
         obtain ⟨ad459, e459, hx459_0⟩ := Kd.at_int HR0.out qA p459 q459
         cases e459
         replace p459 := eq_true p459
         replace q459 := eq_true q459
         have p460 : 0 ≤ (qA : Int) := of_decide_eq_true za
         have q460 : qA < (l1.length : Int) := of_decide_eq_true za
         obtain ⟨ad460, e460, hx460_0⟩ := Kd.at_int HR1.out qA p460 q460
         cases e460
         replace p460 := eq_true p460
         replace q460 := eq_true q460
         go_wp2
         repeat (go_quiet (fail); try go_wp2)
         go_ret
         exact ⟨zT, by repeat (first | exact Drawn0.refl _ | apply Drawn0.step)⟩
       ·rw [if_neg c7] at H
        exact absurd H (by simp)
      ·rw [if_neg c6] at H
       exact absurd H (by simp)
     ·rw [if_neg c5] at H
      exact absurd H (by simp)
    ·rw [if_neg c4] at H
     have c4b0 := decide_eq_false c4
     clear c4
     obtain rfl := Option.some.inj H
     go_wp2
     repeat (go_quiet (fail); try go_wp2)
     go_ret
     exact ⟨zT, by repeat (first | exact Drawn0.refl _ | apply Drawn0.step)⟩
 ·rw [if_neg c3] at H
  have c3b0 : ((l0.length : Int) == (l1.length : Int)) = false := beq_eq_false_iff_ne.mpr c3
  have c3b1 : ((l0.length : Int) != (l1.length : Int)) = true := bne_iff_ne.mpr c3
  have c3b2 : (l0.length == l1.length) = false := by first | simpa using c3 | (simp at c3 ⊢; omega)
  obtain rfl := Option.some.inj H
  go_enter Try.func22, Try.ntmps22
  go_wp2
  repeat (go_quiet (fail); try go_wp2)
  go_ret
  exact ⟨zT, by repeat (first | exact Drawn0.refl _ | apply Drawn0.step)⟩
def prog_constant.j0 : Nat → Int → Bool → Int → Int → Int → Int → Int → Option (Bool)
 | 0, _, _, _, _, _, _, _ => none
 | k + 1, x4, x5, qJ, qK, qL, qM, qD => if x5 = true then (if qD = 0 then (some false) else (if qD ≥ (-512) then (some (decide (qD ≤ 512))) else (some false))) else (if x4 = 7 then (if qD ≥ 1 then (some (decide (qD ≤ 64))) else (some false)) else (if x4 = 8 then (if qD ≥ 1 then (some (decide (qD ≤ 64))) else (some false)) else (some (qD == 0))))
def prog_constant.f (k : Nat) (qA : Int) (qE : Int) (qF : Int) (qG : Int) (qC : Int) : Option (Bool) := if qA = 5 then (prog_constant.j0 k qA (qA == 5) qA qE qF qG qC) else (prog_constant.j0 k qA (qA == 6) qA qE qF qG qC)
theorem prog_constant.mono_l : ∀ k, (∀ y0 y1 y2 y3 y4 y5 y6, LeO (prog_constant.j0 k y0 y1 y2 y3 y4 y5 y6) (prog_constant.j0 (k + 1) y0 y1 y2 y3 y4 y5 y6))
 | 0 => fun _ _ _ _ _ _ _ r h => by simp [prog_constant.j0] at h
 | k + 1 => by
  have ih0 := prog_constant.mono_l k
  ·intro y0 y1 y2 y3 y4 y5 y6
   unfold prog_constant.j0
   exact zM
theorem prog_constant.mono : ∀ a0 a1 a2 a3 a4 k, LeO (prog_constant.f k a0 a1 a2 a3 a4) (prog_constant.f (k + 1) a0 a1 a2 a3 a4) := by
 intro a0 a1 a2 a3 a4 k
 have ih0 := prog_constant.mono_l k
 unfold prog_constant.f
 exact zM
theorem prog_constant.calls (k : Nat) (qA : Int) (qE : Int) (qF : Int) (qG : Int) (qC : Int) (r : Bool) (w : World) (h : prog_constant.f k qA qE qF qG qC = some r) :
  Calls Try.prog 66 #[.agg #[.int .i64 qA, .int .i64 qE, .int .i64 qF, .int .i64 qG, .int .i64 qC]] w fun e w' => e = .returned (.bool r) ∧ Below w.heap.size w w' := by
 have hu63 := Try.underlying63
 have HB := aM (Below.refl w.heap.size w)
 have H : (if qA = 5 then (prog_constant.j0 k qA (qA == 5) qA qE qF qG qC) else (prog_constant.j0 k qA (qA == 6) qA qE qF qG qC)) = some r := h
 clear h
 have HC2 := aM H
 clear H
 go_enter Try.func66, Try.ntmps66
 go_upto_if 5 with (first | ((with_reducible refine gate_dst (N := 1) rfl ?_); refine z16_ rfl (N := 1) rfl (cs := #[.int .i64 qA, .int .i64 qE, .int .i64 qF, .int .i64 qG, .int .i64 qC]) (t := 63) zG ?_; intro qH hg w3 hbox hb; have qB := aM (hbox); have qf := aM ((by rw [hg]; exact (z4_ (lB HB)) : w.heap.size ≤ qH)); have qg := aM ((by rw [hg]; exact (z4_ (lB HB)) : w.heap.size ≤ qH)); replace HB := aM (z6_ (lB HB) hb); clear hb hbox hg; have qb := zc5 qB.out; have qc := fun i_ : Nat => z1_ qB.out i_))
 (try simp only [Act.put, List.setIfInBounds_toArray, List.set_cons_zero, List.set_cons_succ])
 go_cut [5] (fun v5 wc => ∃ (kq : Nat) (qI : Bool), v5 = .bool qI ∧ Aside0 (prog_constant.j0 kq qA qI qA qE qF qG qC = some r) ∧ Aside0 (kq ≤ k) ∧ Aside0 (wc.heap[qH]? = some (.cells #[.int .i64 qA, .int .i64 qE, .int .i64 qF, .int .i64 qG, .int .i64 qC] 63 (0, 0))) ∧ Aside0 (Below w.heap.size w wc))
 case first =>
  have H := HC2.out
  clear HC2
  by_cases c5 : qA = 5
  ·rw [if_pos c5] at H
   have c5b0 : (qA == 5) = true := beq_iff_eq.mpr c5
   have c5b1 : (qA != 5) = false := bne_eq_false_iff_eq.mpr c5
   clear c5
   (first | rw [c5b0] | (simp only [i64_w, i32_w]; rw [c5b0]) | skip)
   have H' := aM H
   clear H
   go_wp2
   go_meet
   case rel => exact ⟨_, ((qA == 5)), zT, H', ⟨zO⟩, ⟨zb qB⟩, ⟨zB HB⟩⟩
  ·rw [if_neg c5] at H
   have c5b0 : (qA == 5) = false := beq_eq_false_iff_ne.mpr c5
   have c5b1 : (qA != 5) = true := bne_iff_ne.mpr c5
   (first | rw [c5b0] | (simp only [i64_w, i32_w]; rw [c5b0]) | skip)
   have H' := aM H
   clear H
   go_wp2
   go_meet
   case rel => exact ⟨_, ((qA == 6)), zT, H', ⟨zO⟩, ⟨zb qB⟩, ⟨zB HB⟩⟩
 case rest =>
  clear HC2
  obtain ⟨kq, qI, rfl, HA, HJ1, qB, HB⟩ := hcut
  cases kq with
  | zero => exact absurd HA.out (by simp [prog_constant.j0])
  | succ kj1 =>
   have H := HA.out
   clear HA
   simp only [prog_constant.j0] at H
   by_cases c6 : qI = true
   ·subst c6
    have H1 : (if qC = 0 then (some false) else (if qC ≥ (-512) then (some (decide (qC ≤ 512))) else (some false))) = some r := by rw [if_pos rfl] at H; exact H
    clear H
    have H := H1
    clear H1
    by_cases c7 : qC = 0
    ·rw [if_pos c7] at H
     have c7b0 : (qC == 0) = true := beq_iff_eq.mpr c7
     have c7b1 : (qC != 0) = false := bne_eq_false_iff_eq.mpr c7
     clear c7
     obtain rfl := Option.some.inj H
     have qd := zc5 qB.out
     have qe := fun i_ : Nat => z1_ qB.out i_
     go_wp2
     go_ret
     exact ⟨zE, zB HB⟩
    ·rw [if_neg c7] at H
     have c7b0 : (qC == 0) = false := beq_eq_false_iff_ne.mpr c7
     have c7b1 : (qC != 0) = true := bne_iff_ne.mpr c7
     by_cases c9 : qC ≥ (-512)
     ·rw [if_pos c9] at H
      have c9b0 := decide_eq_true c9
      clear c9
      obtain rfl := Option.some.inj H
      have qN := zc5 qB.out
      have qO := fun i_ : Nat => z1_ qB.out i_
      go_wp2
      go_ret
      exact ⟨zE, zB HB⟩
     ·rw [if_neg c9] at H
      have c9b0 := decide_eq_false c9
      clear c9
      obtain rfl := Option.some.inj H
      have qP := zc5 qB.out
      have qQ := fun i_ : Nat => z1_ qB.out i_
      go_wp2
      go_ret
      exact ⟨zE, zB HB⟩
   ·replace c6 := Bool.eq_false_iff.mpr c6
    subst c6
    have H1 : (if qA = 7 then (if qC ≥ 1 then (some (decide (qC ≤ 64))) else (some false)) else (if qA = 8 then (if qC ≥ 1 then (some (decide (qC ≤ 64))) else (some false)) else (some (qC == 0)))) = some r := by rw [if_neg (show ¬ (false = true) by decide)] at H; exact H
    clear H
    have H := H1
    clear H1
    by_cases c12 : qA = 7
    ·rw [if_pos c12] at H
     have c12b0 : (qA == 7) = true := beq_iff_eq.mpr c12
     have c12b1 : (qA != 7) = false := bne_eq_false_iff_eq.mpr c12
     clear c12
     by_cases c13 : qC ≥ 1
     ·rw [if_pos c13] at H
      have c13b0 := decide_eq_true c13
      clear c13
      obtain rfl := Option.some.inj H
      have qR := zc5 qB.out
      have qS := fun i_ : Nat => z1_ qB.out i_
      go_wp2
      go_ret
      exact ⟨zE, zB HB⟩
     ·rw [if_neg c13] at H
      have c13b0 := decide_eq_false c13
      clear c13
      obtain rfl := Option.some.inj H
      have qT := zc5 qB.out
      have qU := fun i_ : Nat => z1_ qB.out i_
      go_wp2
      go_ret
      exact ⟨zE, zB HB⟩
    ·rw [if_neg c12] at H
     have c12b0 : (qA == 7) = false := beq_eq_false_iff_ne.mpr c12
     have c12b1 : (qA != 7) = true := bne_iff_ne.mpr c12
     by_cases c16 : qA = 8
     ·rw [if_pos c16] at H
      have c16b0 : (qA == 8) = true := beq_iff_eq.mpr c16
      have c16b1 : (qA != 8) = false := bne_eq_false_iff_eq.mpr c16
      clear c16
      by_cases c17 : qC ≥ 1
      ·rw [if_pos c17] at H
       have c17b0 := decide_eq_true c17
       clear c17
       obtain rfl := Option.some.inj H
       have qV := zc5 qB.out
       have qW := fun i_ : Nat => z1_ qB.out i_
       go_wp2
       go_ret
       exact ⟨zE, zB HB⟩
      ·rw [if_neg c17] at H
       have c17b0 := decide_eq_false c17
       clear c17
       obtain rfl := Option.some.inj H
       have qX := zc5 qB.out
       have qY := fun i_ : Nat => z1_ qB.out i_
       go_wp2
       go_ret
       exact ⟨zE, zB HB⟩
     ·rw [if_neg c16] at H
      have c16b0 : (qA == 8) = false := beq_eq_false_iff_ne.mpr c16
      have c16b1 : (qA != 8) = true := bne_iff_ne.mpr c16
      obtain rfl := Option.some.inj H
      have qZ := zc5 qB.out
      have qa := fun i_ : Nat => z1_ qB.out i_
      go_wp2
      go_ret
      exact ⟨zE, zB HB⟩
def prog_Asks.j0 : Nat → Int → Bool → Int → Int → Int → Int → Int → Option (List Int)
 | 0, _, _, _, _, _, _, _ => none
 | k + 1, x4, x5, qR, qS, qE, qJ, qT => if x5 = true then (some (([qE, qJ] : List Int))) else (if x4 = 1 then (some (([qE] : List Int))) else (if x4 = 2 then (some (([qE] : List Int))) else (if x4 = 5 then (some (([qE] : List Int))) else (if x4 = 6 then (some (([qE] : List Int))) else (if x4 = 7 then (some (([qE] : List Int))) else (if x4 = 8 then (some (([qE] : List Int))) else (some ([] : List Int))))))))
def prog_Asks.f (k : Nat) (qA : Int) (qG : Int) (qB : Int) (qD : Int) (qH : Int) : Option (List Int) := if qA = 3 then (prog_Asks.j0 k qA (qA == 3) qA qG qB qD qH) else (prog_Asks.j0 k qA (qA == 4) qA qG qB qD qH)
theorem prog_Asks.mono_l : ∀ k, (∀ y0 y1 y2 y3 y4 y5 y6, LeO (prog_Asks.j0 k y0 y1 y2 y3 y4 y5 y6) (prog_Asks.j0 (k + 1) y0 y1 y2 y3 y4 y5 y6))
 | 0 => fun _ _ _ _ _ _ _ r h => by simp [prog_Asks.j0] at h
 | k + 1 => by
  have ih0 := prog_Asks.mono_l k
  ·intro y0 y1 y2 y3 y4 y5 y6
   unfold prog_Asks.j0
   exact zM
theorem prog_Asks.mono : ∀ a0 a1 a2 a3 a4 k, LeO (prog_Asks.f k a0 a1 a2 a3 a4) (prog_Asks.f (k + 1) a0 a1 a2 a3 a4) := by
 intro a0 a1 a2 a3 a4 k
 have ih0 := prog_Asks.mono_l k
 unfold prog_Asks.f
 exact zM
theorem prog_Asks.calls (k : Nat) (qA : Int) (qG : Int) (qB : Int) (qD : Int) (qH : Int) (r : List Int) (w : World) (h : prog_Asks.f k qA qG qB qD qH = some r) :
  Calls Try.prog 67 #[.agg #[.int .i64 qA, .int .i64 qG, .int .i64 qB, .int .i64 qD, .int .i64 qH]] w fun e w' => ∃ v0_ : Value, e = .returned (v0_) ∧ Kd.R (Kd.int .i64) 3 w' w.heap.size (fun _ => True) v0_ r ∧ Below w.heap.size w w' := by
 have hu63 := Try.underlying63
 have HB := aM (Below.refl w.heap.size w)
 have H : (if qA = 3 then (prog_Asks.j0 k qA (qA == 3) qA qG qB qD qH) else (prog_Asks.j0 k qA (qA == 4) qA qG qB qD qH)) = some r := h
 clear h
 have HC2 := aM H
 clear H
 go_enter Try.func67, Try.ntmps67
 go_upto_if 5 with (first | ((with_reducible refine gate_dst (N := 1) rfl ?_); refine z16_ rfl (N := 1) rfl (cs := #[.int .i64 qA, .int .i64 qG, .int .i64 qB, .int .i64 qD, .int .i64 qH]) (t := 63) zG ?_; intro qF hg w3 hbox hb; have qC := aM (hbox); have qk := aM ((by rw [hg]; exact (z4_ (lB HB)) : w.heap.size ≤ qF)); have ql := aM ((by rw [hg]; exact (z4_ (lB HB)) : w.heap.size ≤ qF)); replace HB := aM (z6_ (lB HB) hb); clear hb hbox hg; have qg := zc5 qC.out; have qh := fun i_ : Nat => z1_ qC.out i_))
 (try simp only [Act.put, List.setIfInBounds_toArray, List.set_cons_zero, List.set_cons_succ])
 go_cut [5] (fun v5 wc => ∃ (kq : Nat) (qI : Bool), v5 = .bool qI ∧ Aside0 (prog_Asks.j0 kq qA qI qA qG qB qD qH = some r) ∧ Aside0 (kq ≤ k) ∧ Aside0 (wc.heap[qF]? = some (.cells #[.int .i64 qA, .int .i64 qG, .int .i64 qB, .int .i64 qD, .int .i64 qH] 63 (0, 0))) ∧ Aside0 (Below w.heap.size w wc))
 case first =>
  have H := HC2.out
  clear HC2
  by_cases c5 : qA = 3
  ·rw [if_pos c5] at H
   have c5b0 : (qA == 3) = true := beq_iff_eq.mpr c5
   have c5b1 : (qA != 3) = false := bne_eq_false_iff_eq.mpr c5
   clear c5
   (first | rw [c5b0] | (simp only [i64_w, i32_w]; rw [c5b0]) | skip)
   have H' := aM H
   clear H
   go_wp2
   go_meet
   case rel => exact ⟨_, ((qA == 3)), zT, H', ⟨zO⟩, ⟨zb qC⟩, ⟨zB HB⟩⟩
  ·rw [if_neg c5] at H
   have c5b0 : (qA == 3) = false := beq_eq_false_iff_ne.mpr c5
   have c5b1 : (qA != 3) = true := bne_iff_ne.mpr c5
   (first | rw [c5b0] | (simp only [i64_w, i32_w]; rw [c5b0]) | skip)
   have H' := aM H
   clear H
   go_wp2
   go_meet
   case rel => exact ⟨_, ((qA == 4)), zT, H', ⟨zO⟩, ⟨zb qC⟩, ⟨zB HB⟩⟩
 case rest =>
  clear HC2
  obtain ⟨kq, qI, rfl, HA, HJ1, qC, HB⟩ := hcut
  cases kq with
  | zero => exact absurd HA.out (by simp [prog_Asks.j0])
  | succ kj1 =>
   have H := HA.out
   clear HA
   simp only [prog_Asks.j0] at H
   by_cases c6 : qI = true
   ·subst c6
    have H1 : (some (([qB, qD] : List Int))) = some r := by rw [if_pos rfl] at H; exact H
    clear H
    have H := H1
    clear H1
    obtain ⟨y106, hy106⟩ : ∃ y_ : List Int, y_ = (([qB, qD] : List Int)) := ⟨_, rfl⟩
    replace H : (some y106) = some r := zH hy106 H
    have Ny106 := aM hy106
    clear hy106
    obtain rfl := Option.some.inj H
    have qi := zc5 qC.out
    have qj := fun i_ : Nat => z1_ qC.out i_
    go_wp2_with (first | ((with_reducible refine gate_dst (N := 12) rfl ?_); refine Kd.R_lit (Kd.int .i64) _ 3 ?hg (N := 12) ?hd (xs := ([qB, qD] : List Int)) (inner := [.int .i64 qB, .int .i64 qD]) (ok := fun _ => True) (okp := fun _ => True) ?hr ?hp (fun _ hk => hk) trivial (Below.refl _ _) (Nat.le_refl _) (by simp) ?_; (case hd => rfl); (case hg => rfl); (case hr => first | (go_simp; done) | (go_simp; rfl)); (case hp => exact (Reps.one (show Kd.M (Kd.int .i64) _ _ _ qB [.int .i64 qB] from rfl) (Reps.one (show Kd.M (Kd.int .i64) _ _ _ qD [.int .i64 qD] from rfl) (Reps.none _ _)))); intro v107 w8 ho9 hb hg_ hnew_; clear hg_ hnew_; (first | rw [← Ny106.out] at ho9 | (simp only [Int.reduceToNat] at ho9; rw [← Ny106.out] at ho9)); have qK := aM (Kd.z20_ ho9 (z4_ (zB HB))); replace qC := aM (z5_ (g := qF) (lK qC) hb); replace HB := aM (z6_ (zB HB) hb); clear hb ho9))
    go_ret
    exact ⟨_, zE, by apply rX; exact qK.out, zB HB⟩
   ·replace c6 := Bool.eq_false_iff.mpr c6
    subst c6
    have H1 : (if qA = 1 then (some (([qB] : List Int))) else (if qA = 2 then (some (([qB] : List Int))) else (if qA = 5 then (some (([qB] : List Int))) else (if qA = 6 then (some (([qB] : List Int))) else (if qA = 7 then (some (([qB] : List Int))) else (if qA = 8 then (some (([qB] : List Int))) else (some ([] : List Int)))))))) = some r := by rw [if_neg (show ¬ (false = true) by decide)] at H; exact H
    clear H
    have H := H1
    clear H1
    by_cases c10 : qA = 1
    ·rw [if_pos c10] at H
     have c10b0 : (qA == 1) = true := beq_iff_eq.mpr c10
     have c10b1 : (qA != 1) = false := bne_eq_false_iff_eq.mpr c10
     clear c10
     obtain ⟨y109, hy109⟩ : ∃ y_ : List Int, y_ = (([qB] : List Int)) := ⟨_, rfl⟩
     replace H : (some y109) = some r := zH hy109 H
     have Ny109 := aM hy109
     clear hy109
     obtain rfl := Option.some.inj H
     have qU := zc5 qC.out
     have qV := fun i_ : Nat => z1_ qC.out i_
     go_wp2_with (first | ((with_reducible refine gate_dst (N := 22) rfl ?_); refine Kd.R_lit (Kd.int .i64) _ 3 ?hg (N := 22) ?hd (xs := ([qB] : List Int)) (inner := [.int .i64 qB]) (ok := fun _ => True) (okp := fun _ => True) ?hr ?hp (fun _ hk => hk) trivial (Below.refl _ _) (Nat.le_refl _) (by simp) ?_; (case hd => rfl); (case hg => rfl); (case hr => first | (go_simp; done) | (go_simp; rfl)); (case hp => exact (Reps.one (show Kd.M (Kd.int .i64) _ _ _ qB [.int .i64 qB] from rfl) (Reps.none _ _))); intro v110 w12 ho13 hb hg_ hnew_; clear hg_ hnew_; (first | rw [← Ny109.out] at ho13 | (simp only [Int.reduceToNat] at ho13; rw [← Ny109.out] at ho13)); have qL := aM (Kd.z20_ ho13 (z4_ (zB HB))); replace qC := aM (z5_ (g := qF) (lK qC) hb); replace HB := aM (z6_ (zB HB) hb); clear hb ho13))
     go_ret
     exact ⟨_, zE, by apply rX; exact qL.out, zB HB⟩
    ·rw [if_neg c10] at H
     have c10b0 : (qA == 1) = false := beq_eq_false_iff_ne.mpr c10
     have c10b1 : (qA != 1) = true := bne_iff_ne.mpr c10
     by_cases c14 : qA = 2
     ·rw [if_pos c14] at H
      have c14b0 : (qA == 2) = true := beq_iff_eq.mpr c14
      have c14b1 : (qA != 2) = false := bne_eq_false_iff_eq.mpr c14
      clear c14
      obtain ⟨y112, hy112⟩ : ∃ y_ : List Int, y_ = (([qB] : List Int)) := ⟨_, rfl⟩
      replace H : (some y112) = some r := zH hy112 H
      have Ny112 := aM hy112
      clear hy112
      obtain rfl := Option.some.inj H
      have qW := zc5 qC.out
      have qX := fun i_ : Nat => z1_ qC.out i_
      go_wp2_with (first | ((with_reducible refine gate_dst (N := 22) rfl ?_); refine Kd.R_lit (Kd.int .i64) _ 3 ?hg (N := 22) ?hd (xs := ([qB] : List Int)) (inner := [.int .i64 qB]) (ok := fun _ => True) (okp := fun _ => True) ?hr ?hp (fun _ hk => hk) trivial (Below.refl _ _) (Nat.le_refl _) (by simp) ?_; (case hd => rfl); (case hg => rfl); (case hr => first | (go_simp; done) | (go_simp; rfl)); (case hp => exact (Reps.one (show Kd.M (Kd.int .i64) _ _ _ qB [.int .i64 qB] from rfl) (Reps.none _ _))); intro v113 w16 ho17 hb hg_ hnew_; clear hg_ hnew_; (first | rw [← Ny112.out] at ho17 | (simp only [Int.reduceToNat] at ho17; rw [← Ny112.out] at ho17)); have qM := aM (Kd.z20_ ho17 (z4_ (zB HB))); replace qC := aM (z5_ (g := qF) (lK qC) hb); replace HB := aM (z6_ (zB HB) hb); clear hb ho17))
      go_ret
      exact ⟨_, zE, by apply rX; exact qM.out, zB HB⟩
     ·rw [if_neg c14] at H
      have c14b0 : (qA == 2) = false := beq_eq_false_iff_ne.mpr c14
      have c14b1 : (qA != 2) = true := bne_iff_ne.mpr c14
      by_cases c18 : qA = 5
      ·rw [if_pos c18] at H
       have c18b0 : (qA == 5) = true := beq_iff_eq.mpr c18
       have c18b1 : (qA != 5) = false := bne_eq_false_iff_eq.mpr c18
       clear c18
       obtain ⟨y115, hy115⟩ : ∃ y_ : List Int, y_ = (([qB] : List Int)) := ⟨_, rfl⟩
       replace H : (some y115) = some r := zH hy115 H
       have Ny115 := aM hy115
       clear hy115
       obtain rfl := Option.some.inj H
       have qY := zc5 qC.out
       have qZ := fun i_ : Nat => z1_ qC.out i_
       go_wp2_with (first | ((with_reducible refine gate_dst (N := 22) rfl ?_); refine Kd.R_lit (Kd.int .i64) _ 3 ?hg (N := 22) ?hd (xs := ([qB] : List Int)) (inner := [.int .i64 qB]) (ok := fun _ => True) (okp := fun _ => True) ?hr ?hp (fun _ hk => hk) trivial (Below.refl _ _) (Nat.le_refl _) (by simp) ?_; (case hd => rfl); (case hg => rfl); (case hr => first | (go_simp; done) | (go_simp; rfl)); (case hp => exact (Reps.one (show Kd.M (Kd.int .i64) _ _ _ qB [.int .i64 qB] from rfl) (Reps.none _ _))); intro v116 w20 ho21 hb hg_ hnew_; clear hg_ hnew_; (first | rw [← Ny115.out] at ho21 | (simp only [Int.reduceToNat] at ho21; rw [← Ny115.out] at ho21)); have qN := aM (Kd.z20_ ho21 (z4_ (zB HB))); replace qC := aM (z5_ (g := qF) (lK qC) hb); replace HB := aM (z6_ (zB HB) hb); clear hb ho21))
       go_ret
       exact ⟨_, zE, by apply rX; exact qN.out, zB HB⟩
      ·rw [if_neg c18] at H
       have c18b0 : (qA == 5) = false := beq_eq_false_iff_ne.mpr c18
       have c18b1 : (qA != 5) = true := bne_iff_ne.mpr c18
       by_cases c22 : qA = 6
       ·rw [if_pos c22] at H
        have c22b0 : (qA == 6) = true := beq_iff_eq.mpr c22
        have c22b1 : (qA != 6) = false := bne_eq_false_iff_eq.mpr c22
        clear c22
        obtain ⟨y118, hy118⟩ : ∃ y_ : List Int, y_ = (([qB] : List Int)) := ⟨_, rfl⟩
        replace H : (some y118) = some r := zH hy118 H
        have Ny118 := aM hy118
        clear hy118
        obtain rfl := Option.some.inj H
        have qa := zc5 qC.out
        have qb := fun i_ : Nat => z1_ qC.out i_
        go_wp2_with (first | ((with_reducible refine gate_dst (N := 22) rfl ?_); refine Kd.R_lit (Kd.int .i64) _ 3 ?hg (N := 22) ?hd (xs := ([qB] : List Int)) (inner := [.int .i64 qB]) (ok := fun _ => True) (okp := fun _ => True) ?hr ?hp (fun _ hk => hk) trivial (Below.refl _ _) (Nat.le_refl _) (by simp) ?_; (case hd => rfl); (case hg => rfl); (case hr => first | (go_simp; done) | (go_simp; rfl)); (case hp => exact (Reps.one (show Kd.M (Kd.int .i64) _ _ _ qB [.int .i64 qB] from rfl) (Reps.none _ _))); intro v119 w24 ho25 hb hg_ hnew_; clear hg_ hnew_; (first | rw [← Ny118.out] at ho25 | (simp only [Int.reduceToNat] at ho25; rw [← Ny118.out] at ho25)); have qO := aM (Kd.z20_ ho25 (z4_ (zB HB))); replace qC := aM (z5_ (g := qF) (lK qC) hb); replace HB := aM (z6_ (zB HB) hb); clear hb ho25))
        go_ret
        exact ⟨_, zE, by apply rX; exact qO.out, zB HB⟩
       ·rw [if_neg c22] at H
        have c22b0 : (qA == 6) = false := beq_eq_false_iff_ne.mpr c22
        have c22b1 : (qA != 6) = true := bne_iff_ne.mpr c22
        by_cases c26 : qA = 7
        ·rw [if_pos c26] at H
         have c26b0 : (qA == 7) = true := beq_iff_eq.mpr c26
         have c26b1 : (qA != 7) = false := bne_eq_false_iff_eq.mpr c26
         clear c26
         obtain ⟨y121, hy121⟩ : ∃ y_ : List Int, y_ = (([qB] : List Int)) := ⟨_, rfl⟩
         replace H : (some y121) = some r := zH hy121 H
         have Ny121 := aM hy121
         clear hy121
         obtain rfl := Option.some.inj H
         have qc := zc5 qC.out
         have qd := fun i_ : Nat => z1_ qC.out i_
         go_wp2_with (first | ((with_reducible refine gate_dst (N := 22) rfl ?_); refine Kd.R_lit (Kd.int .i64) _ 3 ?hg (N := 22) ?hd (xs := ([qB] : List Int)) (inner := [.int .i64 qB]) (ok := fun _ => True) (okp := fun _ => True) ?hr ?hp (fun _ hk => hk) trivial (Below.refl _ _) (Nat.le_refl _) (by simp) ?_; (case hd => rfl); (case hg => rfl); (case hr => first | (go_simp; done) | (go_simp; rfl)); (case hp => exact (Reps.one (show Kd.M (Kd.int .i64) _ _ _ qB [.int .i64 qB] from rfl) (Reps.none _ _))); intro v122 w28 ho29 hb hg_ hnew_; clear hg_ hnew_; (first | rw [← Ny121.out] at ho29 | (simp only [Int.reduceToNat] at ho29; rw [← Ny121.out] at ho29)); have qP := aM (Kd.z20_ ho29 (z4_ (zB HB))); replace qC := aM (z5_ (g := qF) (lK qC) hb); replace HB := aM (z6_ (zB HB) hb); clear hb ho29))
         go_ret
         exact ⟨_, zE, by apply rX; exact qP.out, zB HB⟩
        ·rw [if_neg c26] at H
         have c26b0 : (qA == 7) = false := beq_eq_false_iff_ne.mpr c26
         have c26b1 : (qA != 7) = true := bne_iff_ne.mpr c26
         by_cases c30 : qA = 8
         ·rw [if_pos c30] at H
          have c30b0 : (qA == 8) = true := beq_iff_eq.mpr c30
          have c30b1 : (qA != 8) = false := bne_eq_false_iff_eq.mpr c30
          clear c30
          obtain ⟨y124, hy124⟩ : ∃ y_ : List Int, y_ = (([qB] : List Int)) := ⟨_, rfl⟩
          replace H : (some y124) = some r := zH hy124 H
          have Ny124 := aM hy124
          clear hy124
          obtain rfl := Option.some.inj H
          have qe := zc5 qC.out
          have qf := fun i_ : Nat => z1_ qC.out i_
          go_wp2_with (first | ((with_reducible refine gate_dst (N := 22) rfl ?_); refine Kd.R_lit (Kd.int .i64) _ 3 ?hg (N := 22) ?hd (xs := ([qB] : List Int)) (inner := [.int .i64 qB]) (ok := fun _ => True) (okp := fun _ => True) ?hr ?hp (fun _ hk => hk) trivial (Below.refl _ _) (Nat.le_refl _) (by simp) ?_; (case hd => rfl); (case hg => rfl); (case hr => first | (go_simp; done) | (go_simp; rfl)); (case hp => exact (Reps.one (show Kd.M (Kd.int .i64) _ _ _ qB [.int .i64 qB] from rfl) (Reps.none _ _))); intro v125 w32 ho33 hb hg_ hnew_; clear hg_ hnew_; (first | rw [← Ny124.out] at ho33 | (simp only [Int.reduceToNat] at ho33; rw [← Ny124.out] at ho33)); have qQ := aM (Kd.z20_ ho33 (z4_ (zB HB))); replace qC := aM (z5_ (g := qF) (lK qC) hb); replace HB := aM (z6_ (zB HB) hb); clear hb ho33))
          go_ret
          exact ⟨_, zE, by apply rX; exact qQ.out, zB HB⟩
         ·rw [if_neg c30] at H
          have c30b0 : (qA == 8) = false := beq_eq_false_iff_ne.mpr c30
          have c30b1 : (qA != 8) = true := bne_iff_ne.mpr c30
          obtain rfl := Option.some.inj H
          go_wp2
          go_ret
          exact ⟨_, zE, by first | exact Kd.R_nil _ _ _ _ _ | exact Kd.N_nil _ _ _ _ _ | exact Kd.V_nil _ _ _ _ _ | exact Kd.Q_nil _ _ _ _ _ | exact Kd.S_nil _ _ _ _ _, zB HB⟩
end Go.Proofs.Ytccbdcbeinkjgaa.XA
end
section
namespace Go.Proofs.Ytccbdcbeinkjgaa.XA
open Go.Proofs.Ytccbdcbeinkjgaa.Lift Go.RowKit Go.Proofs.YtccbdcbeinkjgaaW.PrintWords Go.Proofs.YtccbdcbeinkjgaaW.PrintLast Go.Proofs.YtccbdcbeinkjgaaW.PrintMore
attribute [local go_sem] max2_int min2_int max_two min_two max_three min_three max_four min_four
mutual
def prog_may.j0 : Nat → Int → Bool → Int → Int → Int → Int → Int → Option (Bool)
 | 0, _, _, _, _, _, _, _ => none
 | k + 1, x1, x41, qP, qQ, qR, qS, qT => if x41 = true then (some false) else ((prog_Asks.f k qP qQ qR qS qT).bind fun qH => (prog_may.l0 k x1 qH (qH.length : Int) 0))
def prog_may.l0 : Nat → Int → List Int → Int → Int → Option (Bool)
 | 0, _, _, _, _ => none
 | k + 1, x1, x43, x44, x45 => if x45 < x44 then (if 0 ≤ x45 then (if x45 < (x43.length : Int) then (if (rd x43 x45) < 0 then (some false) else (if (rd x43 x45) ≥ x1 then (some false) else (prog_may.l0 k x1 x43 x44 (wrap64 (x45 + 1))))) else (none)) else (none)) else (some true)
end
def prog_may.f (k : Nat) (qA : Int) (qC : Int) (qD : Int) (qB : Int) (qE : Int) (a1 : Int) : Option (Bool) := if qA < 1 then (prog_may.j0 k a1 true qA qC qD qB qE) else (if qA > 8 then (prog_may.j0 k a1 true qA qC qD qB qE) else (if qC < 0 then (prog_may.j0 k a1 true qA qC qD qB qE) else (if qC ≥ a1 then (prog_may.j0 k a1 true qA qC qD qB qE) else ((prog_two.f qA).bind fun qL => (if qL = true then ((prog_constant.f k qA qC qD qB qE).bind fun qI => (prog_may.j0 k a1 (!qI) qA qC qD qB qE)) else (if qB = 0 then ((prog_constant.f k qA qC qD qB qE).bind fun qJ => (prog_may.j0 k a1 (!qJ) qA qC qD qB qE)) else (prog_may.j0 k a1 true qA qC qD qB qE)))))))
theorem prog_may.mono_l : ∀ k, (∀ y0 y1 y2 y3 y4 y5 y6, LeO (prog_may.j0 k y0 y1 y2 y3 y4 y5 y6) (prog_may.j0 (k + 1) y0 y1 y2 y3 y4 y5 y6)) ∧ (∀ y0 y1 y2 y3, LeO (prog_may.l0 k y0 y1 y2 y3) (prog_may.l0 (k + 1) y0 y1 y2 y3))
 | 0 => ⟨fun _ _ _ _ _ _ _ r h => by simp [prog_may.j0] at h, fun _ _ _ _ r h => by simp [prog_may.l0] at h⟩
 | k + 1 => by
  obtain ⟨ih0, ih1⟩ := prog_may.mono_l k
  refine ⟨?_, ?_⟩
  ·intro y0 y1 y2 y3 y4 y5 y6
   unfold prog_may.j0
   have im0 := @prog_Asks.mono; have im1 := @prog_constant.mono; exact zM
  ·intro y0 y1 y2 y3
   unfold prog_may.l0
   have im0 := @prog_Asks.mono; have im1 := @prog_constant.mono; exact zM
theorem prog_may.mono : ∀ a0 a1 a2 a3 a4 a5 k, LeO (prog_may.f k a0 a1 a2 a3 a4 a5) (prog_may.f (k + 1) a0 a1 a2 a3 a4 a5) := by
 intro a0 a1 a2 a3 a4 a5 k
 obtain ⟨ih0, ih1⟩ := prog_may.mono_l k
 unfold prog_may.f
 have im0 := @prog_Asks.mono; have im1 := @prog_constant.mono; exact zM
theorem prog_may.calls (k : Nat) (qA : Int) (qC : Int) (qD : Int) (qB : Int) (qE : Int) (a1 : Int) (r : Bool) (w : World) (h : prog_may.f k qA qC qD qB qE a1 = some r) :
  Calls Try.prog 58 #[.agg #[.int .i64 qA, .int .i64 qC, .int .i64 qD, .int .i64 qB, .int .i64 qE], .int .i64 a1] w fun e w' => e = .returned (.bool r) ∧ Below w.heap.size w w' := by
 have hu63 := Try.underlying63
 have HB := aM (Below.refl w.heap.size w)
 have H : (if qA < 1 then (prog_may.j0 k a1 true qA qC qD qB qE) else (if qA > 8 then (prog_may.j0 k a1 true qA qC qD qB qE) else (if qC < 0 then (prog_may.j0 k a1 true qA qC qD qB qE) else (if qC ≥ a1 then (prog_may.j0 k a1 true qA qC qD qB qE) else ((prog_two.f qA).bind fun qL => (if qL = true then ((prog_constant.f k qA qC qD qB qE).bind fun qI => (prog_may.j0 k a1 (!qI) qA qC qD qB qE)) else (if qB = 0 then ((prog_constant.f k qA qC qD qB qE).bind fun qJ => (prog_may.j0 k a1 (!qJ) qA qC qD qB qE)) else (prog_may.j0 k a1 true qA qC qD qB qE)))))))) = some r := h
 clear h
 have HC3 := aM H
 clear H
 go_enter Try.func58, Try.ntmps58
 go_upto_region 1 with (first | ((with_reducible refine gate_dst (N := 2) rfl ?_); refine z16_ rfl (N := 2) rfl (cs := #[.int .i64 qA, .int .i64 qC, .int .i64 qD, .int .i64 qB, .int .i64 qE]) (t := 63) zG ?_; intro qK hg w4 hbox hb; have qF := aM (hbox); have qm := aM ((by rw [hg]; exact (z4_ (lB HB)) : w.heap.size ≤ qK)); have qn := aM ((by rw [hg]; exact (z4_ (lB HB)) : w.heap.size ≤ qK)); replace HB := aM (z6_ (lB HB) hb); clear hb hbox hg))
 (try simp only [Act.put, List.setIfInBounds_toArray, List.set_cons_zero, List.set_cons_succ])
 go_cut [41] (fun v41 wc => ∃ (kq : Nat) (qM : Bool), v41 = .bool qM ∧ Aside0 (prog_may.j0 kq a1 qM qA qC qD qB qE = some r) ∧ Aside0 (kq ≤ k) ∧ Aside0 (wc.heap[qK]? = some (.cells #[.int .i64 qA, .int .i64 qC, .int .i64 qD, .int .i64 qB, .int .i64 qE] 63 (0, 0))) ∧ Aside0 (Below w.heap.size w wc))
 case first =>
  have H := HC3.out
  clear HC3
  by_cases c5 : qA < 1
  ·rw [if_pos c5] at H
   have c5b0 := decide_eq_true c5
   clear c5
   (first | rw [c5b0] | (simp only [i64_w, i32_w]; rw [c5b0]) | skip)
   have H' := aM H
   clear H
   have qi := zc5 qF.out
   have qj := fun i_ : Nat => z1_ qF.out i_
   go_wp2
   go_meet
   case rel => exact ⟨_, (true), zT, H', ⟨zO⟩, ⟨zb qF⟩, ⟨zB HB⟩⟩
  ·rw [if_neg c5] at H
   have c5b0 := decide_eq_false c5
   clear c5
   (first | rw [c5b0] | (simp only [i64_w, i32_w]; rw [c5b0]) | skip)
   by_cases c7 : qA > 8
   ·rw [if_pos c7] at H
    have c7b0 := decide_eq_true c7
    clear c7
    have H' := aM H
    clear H
    have qk := zc5 qF.out
    have ql := fun i_ : Nat => z1_ qF.out i_
    go_wp2
    go_meet
    case rel => exact ⟨_, (true), zT, H', ⟨zO⟩, ⟨zb qF⟩, ⟨zB HB⟩⟩
   ·rw [if_neg c7] at H
    have c7b0 := decide_eq_false c7
    clear c7
    by_cases c9 : qC < 0
    ·rw [if_pos c9] at H
     have c9b0 := decide_eq_true c9
     clear c9
     have H' := aM H
     clear H
     have qW := zc5 qF.out
     have qX := fun i_ : Nat => z1_ qF.out i_
     go_wp2
     go_meet
     case rel => exact ⟨_, (true), zT, H', ⟨zO⟩, ⟨zb qF⟩, ⟨zB HB⟩⟩
    ·rw [if_neg c9] at H
     have c9b0 := decide_eq_false c9
     clear c9
     by_cases c11 : qC ≥ a1
     ·rw [if_pos c11] at H
      have c11b0 := decide_eq_true c11
      clear c11
      have H' := aM H
      clear H
      have qY := zc5 qF.out
      have qZ := fun i_ : Nat => z1_ qF.out i_
      go_wp2
      go_meet
      case rel => exact ⟨_, (true), zT, H', ⟨zO⟩, ⟨zb qF⟩, ⟨zB HB⟩⟩
     ·rw [if_neg c11] at H
      have c11b0 := decide_eq_false c11
      clear c11
      replace H := zbs H
      obtain ⟨qL, A130, H⟩ := H
      replace H : (if qL = true then ((prog_constant.f k qA qC qD qB qE).bind fun qI => (prog_may.j0 k a1 (!qI) qA qC qD qB qE)) else (if qB = 0 then ((prog_constant.f k qA qC qD qB qE).bind fun qJ => (prog_may.j0 k a1 (!qJ) qA qC qD qB qE)) else (prog_may.j0 k a1 true qA qC qD qB qE))) = some r := H
      have A13 := aM A130
      clear A130
      by_cases c14 : qL = true
      ·subst c14
       have H1 : ((prog_constant.f k qA qC qD qB qE).bind fun qI => (prog_may.j0 k a1 (!qI) qA qC qD qB qE)) = some r := by rw [if_pos rfl] at H; exact H
       clear H
       have H := H1
       clear H1
       replace H := zbs H
       obtain ⟨qI, A150, H⟩ := H
       replace H : (prog_may.j0 k a1 (!qI) qA qC qD qB qE) = some r := H
       have A15 := aM A150
       clear A150
       have H' := aM H
       clear H
       have qa := zc5 qF.out
       have qb := fun i_ : Nat => z1_ qF.out i_
       go_wp2_with (first | (go_at_call 65; (with_reducible refine (prog_two.calls qA true _ A13.out).mono ?_); rintro e w' ⟨rfl, ⟨nd, rfl⟩⟩) | (go_at_call 66; (with_reducible refine (prog_constant.calls k qA qC qD qB qE qI _ A15.out).mono ?_); rintro e w17 ⟨rfl, hb⟩; replace qF := aM (z5_ (g := qK) (lK qF) hb); replace HB := aM (z6_ (zB HB) hb); (try clear hb)))
       go_meet
       case rel => exact ⟨_, (!qI), zT, H', ⟨zO⟩, ⟨zb qF⟩, ⟨zB HB⟩⟩
      ·replace c14 := Bool.eq_false_iff.mpr c14
       subst c14
       have H1 : (if qB = 0 then ((prog_constant.f k qA qC qD qB qE).bind fun qJ => (prog_may.j0 k a1 (!qJ) qA qC qD qB qE)) else (prog_may.j0 k a1 true qA qC qD qB qE)) = some r := by rw [if_neg (show ¬ (false = true) by decide)] at H; exact H
       clear H
       have H := H1
       clear H1
       by_cases c18 : qB = 0
       ·rw [if_pos c18] at H
        have c18b0 : (qB == 0) = true := beq_iff_eq.mpr c18
        have c18b1 : (qB != 0) = false := bne_eq_false_iff_eq.mpr c18
        clear c18
        replace H := zbs H
        obtain ⟨qJ, A190, H⟩ := H
        replace H : (prog_may.j0 k a1 (!qJ) qA qC qD qB qE) = some r := H
        have A19 := aM A190
        clear A190
        have H' := aM H
        clear H
        have qc := zc5 qF.out
        have qd := fun i_ : Nat => z1_ qF.out i_
        go_wp2_with (first | (go_at_call 65; (with_reducible refine (prog_two.calls qA false _ A13.out).mono ?_); rintro e w' ⟨rfl, ⟨nd, rfl⟩⟩) | (go_at_call 66; (with_reducible refine (prog_constant.calls k qA qC qD qB qE qJ _ A19.out).mono ?_); rintro e w21 ⟨rfl, hb⟩; replace qF := aM (z5_ (g := qK) (lK qF) hb); replace HB := aM (z6_ (zB HB) hb); (try clear hb)))
        go_meet
        case rel => exact ⟨_, (!qJ), zT, H', ⟨zO⟩, ⟨zb qF⟩, ⟨zB HB⟩⟩
       ·rw [if_neg c18] at H
        have c18b0 : (qB == 0) = false := beq_eq_false_iff_ne.mpr c18
        have c18b1 : (qB != 0) = true := bne_iff_ne.mpr c18
        have H' := aM H
        clear H
        have qe := zc5 qF.out
        have qf := fun i_ : Nat => z1_ qF.out i_
        go_wp2_with (first | (go_at_call 65; (with_reducible refine (prog_two.calls qA false _ A13.out).mono ?_); rintro e w' ⟨rfl, ⟨nd, rfl⟩⟩))
        go_meet
        case rel => exact ⟨_, (true), zT, H', ⟨zO⟩, ⟨zb qF⟩, ⟨zB HB⟩⟩
 case rest =>
  clear HC3
  obtain ⟨kq, qM, rfl, HA, HJ2, qF, HB⟩ := hcut
  cases kq with
  | zero => exact absurd HA.out (by simp [prog_may.j0])
  | succ kj2 =>
   have H := HA.out
   clear HA
   simp only [prog_may.j0] at H
   by_cases c23 : qM = true
   ·subst c23
    have H1 : (some false) = some r := by rw [if_pos rfl] at H; exact H
    clear H
    have H := H1
    clear H1
    obtain rfl := Option.some.inj H
    go_wp2
    go_ret
    exact ⟨zE, zB HB⟩
   ·replace c23 := Bool.eq_false_iff.mpr c23
    subst c23
    have H1 : ((prog_Asks.f kj2 qA qC qD qB qE).bind fun qH => (prog_may.l0 kj2 a1 qH (qH.length : Int) 0)) = some r := by rw [if_neg (show ¬ (false = true) by decide)] at H; exact H
    clear H
    have H := H1
    clear H1
    replace H := zbs H
    obtain ⟨qH, A240, H⟩ := H
    replace H : (prog_may.l0 kj2 a1 qH (qH.length : Int) 0) = some r := H
    have A24 := aM A240
    clear A240
    have H' := aM H
    clear H
    have qg := zc5 qF.out
    have qh := fun i_ : Nat => z1_ qF.out i_
    go_wp2_with (first | ((with_reducible refine gate_callee (f := 67) rfl ?_); refine z13_ (some 43) rfl rfl Try.func67 zk rfl #[.agg #[.int .i64 qA, .int .i64 qC, .int .i64 qD, .int .i64 qB, .int .i64 qE]] rfl zA ?_; (with_reducible refine (prog_Asks.calls kj2 qA qC qD qB qE qH _ A24.out).mono ?_); rintro e w26 ⟨v132, rfl, ho0, hb⟩; refine ⟨_, rfl, ?_⟩; have qO := aM (Kd.z20_ ho0 (z4_ (zB HB))); replace qF := aM (z5_ (g := qK) (lK qF) hb); replace HB := aM (z6_ (zB HB) hb); (try clear hb); (try clear ho0); obtain ⟨qU, qV, eo27⟩ := Kd.R_slice qO.out; subst eo27))
    go_loopg [45] kj2 (fun kq v45 w' => ∃ (qG : Int), v45 = .int .i64 qG ∧ Aside0 (prog_may.l0 kq a1 qH (qH.length : Int) qG = some r) ∧ Aside0 (kq ≤ kj2) ∧ Aside0 (Kd.R (Kd.int .i64) 3 w' w.heap.size (fun _ => True) (.slice qU qH.length qV) qH) ∧ Aside0 (w'.heap[qK]? = some (.cells #[.int .i64 qA, .int .i64 qC, .int .i64 qD, .int .i64 qB, .int .i64 qE] 63 (0, 0))) ∧ Aside0 (Below w.heap.size w w'))
    case atStart => exact ⟨(0), zT, H', ⟨Nat.le_refl _⟩, ⟨lR qO⟩, ⟨zb qF⟩, ⟨zB HB⟩⟩
    case round =>
     clear H'
     try clear c23
     obtain ⟨qG, rfl, HA, HK2, qN, qF, HB⟩ := hrel
     cases gk with
     | zero => exact absurd HA.out (by simp [prog_may.l0])
     | succ k2 =>
      have H := HA.out
      clear HA
      simp only [prog_may.l0] at H
      by_cases c28 : qG < (qH.length : Int)
      ·rw [if_pos c28] at H
       have c28b0 := decide_eq_true c28
       clear c28
       by_cases c29 : 0 ≤ qG
       ·rw [if_pos c29] at H
        have c29b0 := decide_eq_true c29
        clear c29
        by_cases c30 : qG < (qH.length : Int)
        ·rw [if_pos c30] at H
         have c30b0 := decide_eq_true c30
         clear c30
         by_cases c31 : (rd qH qG) < 0
         ·rw [if_pos c31] at H
          have c31b0 := decide_eq_true c31
          clear c31
          obtain rfl := Option.some.inj H
          have p134 : 0 ≤ (qG : Int) := of_decide_eq_true za
          have q134 : qG < (qH.length : Int) := of_decide_eq_true za
          obtain ⟨ad134, e134, hx134_0⟩ := Kd.at_int (Kd.z9_ qN.out).2.2 qG p134 q134
          cases e134
          replace p134 := eq_true p134
          replace q134 := eq_true q134
          go_wp2
          go_ret
          exact ⟨zE, zB HB⟩
         ·rw [if_neg c31] at H
          have c31b0 := decide_eq_false c31
          clear c31
          by_cases c32 : (rd qH qG) ≥ a1
          ·rw [if_pos c32] at H
           have c32b0 := decide_eq_true c32
           clear c32
           obtain rfl := Option.some.inj H
           have p134 : 0 ≤ (qG : Int) := of_decide_eq_true za
           have q134 : qG < (qH.length : Int) := of_decide_eq_true za
           obtain ⟨ad134, e134, hx134_0⟩ := Kd.at_int (Kd.z9_ qN.out).2.2 qG p134 q134
           cases e134
           replace p134 := eq_true p134
           replace q134 := eq_true q134
           go_wp2
           go_ret
           exact ⟨zE, zB HB⟩
          ·rw [if_neg c32] at H
           have c32b0 := decide_eq_false c32
           clear c32
           have H' := aM H
           clear H
           have p134 : 0 ≤ (qG : Int) := of_decide_eq_true za
           have q134 : qG < (qH.length : Int) := of_decide_eq_true za
           obtain ⟨ad134, e134, hx134_0⟩ := Kd.at_int (Kd.z9_ qN.out).2.2 qG p134 q134
           cases e134
           replace p134 := eq_true p134
           replace q134 := eq_true q134
           go_wp2
           go_roundg k2
           case measure => have := HJ2.out; have := HK2.out; omega
           case rel => exact ⟨(wrap64 (qG + 1)), zT, H', ⟨by have := HJ2.out; have := HK2.out; omega⟩, ⟨lR qN⟩, ⟨zb qF⟩, ⟨zB HB⟩⟩
        ·rw [if_neg c30] at H
         exact absurd H (by simp)
       ·rw [if_neg c29] at H
        exact absurd H (by simp)
      ·rw [if_neg c28] at H
       have c28b0 := decide_eq_false c28
       clear c28
       obtain rfl := Option.some.inj H
       go_wp2
       go_ret
       exact ⟨zE, zB HB⟩
end Go.Proofs.Ytccbdcbeinkjgaa.XA
end
section
namespace Go.Proofs.Ytccbdcbeinkjgaa.XA
open Go.Proofs.Ytccbdcbeinkjgaa.Lift Go.RowKit Go.Proofs.YtccbdcbeinkjgaaW.PrintWords Go.Proofs.YtccbdcbeinkjgaaW.PrintLast Go.Proofs.YtccbdcbeinkjgaaW.PrintMore
attribute [local go_sem] max2_int min2_int max_two min_two max_three min_three max_four min_four
mutual
def prog_Check.j0 : Nat → Bool → Int → Int → List (S63) → List Int → Option (Int × Int)
 | 0, _, _, _, _, _ => none
 | k + 1, x40, qN, qI, qJ, qK => if x40 = true then (some ((-1), 80)) else (prog_Check.l0 k qK (qK.length : Int) 0 qN qI qJ qK)
def prog_Check.l0 : Nat → List Int → Int → Int → Int → Int → List (S63) → List Int → Option (Int × Int)
 | 0, _, _, _, _, _, _, _ => none
 | k + 1, x42, x43, x44, qN, qI, qJ, qK => if x44 < x43 then (if 0 ≤ x44 then (if x44 < (x42.length : Int) then (if (rd x42 x44) < 0 then (some ((-1), 80)) else (if (rd x42 x44) ≥ qI then (some ((-1), 80)) else (prog_Check.l0 k x42 x43 (wrap64 (x44 + 1)) qN qI qJ qK))) else (none)) else (none)) else (prog_Check.l1 k qJ (qJ.length : Int) 0 qN qI qJ qK)
def prog_Check.l1 : Nat → List (S63) → Int → Int → Int → Int → List (S63) → List Int → Option (Int × Int)
 | 0, _, _, _, _, _, _, _ => none
 | k + 1, x58, x59, x60, qN, qI, qJ, qK => if x60 < x59 then (if 0 ≤ x60 then (if x60 < (x58.length : Int) then ((prog_may.f k ((rd_T63 x58 x60).f0) ((rd_T63 x58 x60).f1) ((rd_T63 x58 x60).f2) ((rd_T63 x58 x60).f3) ((rd_T63 x58 x60).f4) qI).bind fun qV => (if qV = true then (prog_Check.l1 k x58 x59 (wrap64 (x60 + 1)) qN qI qJ qK) else (some (x60, 80)))) else (none)) else (none)) else (some (0, 0))
end
def prog_Check.f (k : Nat) (qF : Int) (qE : Int) (qA : List (S63)) (qD : List Int) : Option (Int × Int) := if qF < 1 then (prog_Check.j0 k true qF qE qA qD) else (if qF > qE then (prog_Check.j0 k true qF qE qA qD) else (if qE > 128 then (prog_Check.j0 k true qF qE qA qD) else (if (qA.length : Int) > 16384 then (prog_Check.j0 k true qF qE qA qD) else (if (qD.length : Int) < 1 then (prog_Check.j0 k true qF qE qA qD) else (prog_Check.j0 k (decide (128 < qD.length)) qF qE qA qD)))))
theorem prog_Check.mono_l : ∀ k, (∀ y0 y1 y2 y3 y4, LeO (prog_Check.j0 k y0 y1 y2 y3 y4) (prog_Check.j0 (k + 1) y0 y1 y2 y3 y4)) ∧ (∀ y0 y1 y2 y3 y4 y5 y6, LeO (prog_Check.l0 k y0 y1 y2 y3 y4 y5 y6) (prog_Check.l0 (k + 1) y0 y1 y2 y3 y4 y5 y6)) ∧ (∀ y0 y1 y2 y3 y4 y5 y6, LeO (prog_Check.l1 k y0 y1 y2 y3 y4 y5 y6) (prog_Check.l1 (k + 1) y0 y1 y2 y3 y4 y5 y6))
 | 0 => ⟨fun _ _ _ _ _ r h => by simp [prog_Check.j0] at h, fun _ _ _ _ _ _ _ r h => by simp [prog_Check.l0] at h, fun _ _ _ _ _ _ _ r h => by simp [prog_Check.l1] at h⟩
 | k + 1 => by
  obtain ⟨ih0, ih1, ih2⟩ := prog_Check.mono_l k
  refine ⟨?_, ?_, ?_⟩
  ·intro y0 y1 y2 y3 y4
   unfold prog_Check.j0
   have im0 := @prog_may.mono; exact zM
  ·intro y0 y1 y2 y3 y4 y5 y6
   unfold prog_Check.l0
   have im0 := @prog_may.mono; exact zM
  ·intro y0 y1 y2 y3 y4 y5 y6
   unfold prog_Check.l1
   have im0 := @prog_may.mono; exact zM
theorem prog_Check.mono : ∀ a0 a1 a2 a3 k, LeO (prog_Check.f k a0 a1 a2 a3) (prog_Check.f (k + 1) a0 a1 a2 a3) := by
 intro a0 a1 a2 a3 k
 obtain ⟨ih0, ih1, ih2⟩ := prog_Check.mono_l k
 unfold prog_Check.f
 have im0 := @prog_may.mono; exact zM
theorem prog_Check.calls (k : Nat) (qF : Int) (qE : Int) (qQ : Option Addr) (qR : Nat) (qA : List (S63)) (qS : Option Addr) (qT : Nat) (qD : List Int) (r1 : Int) (r2 : Int) (w : World) (qX : Kd.C k63 w qQ qA.length qA) (qY : qA.length ≤ qR) (qZ : Kd.C (Kd.int .i64) w qS qD.length qD) (qa : qD.length ≤ qT) (h : prog_Check.f k qF qE qA qD = some (r1, r2)) :
  Calls Try.prog 39 #[.agg #[.int .i64 qF, .int .i64 qE, .slice qQ qA.length qR, .slice qS qD.length qT]] w fun e w' => e = .returned (.tuple #[.int .i64 r1, .int .i64 r2]) ∧ Below w.heap.size w w' := by
 have hu26 := Try.underlying26
 have hu63 := Try.underlying63
 have qb := aM qX
 have q6 := aM qY
 clear qX qY
 have qW := aM qZ
 have q7 := aM qa
 clear qZ qa
 have HB := aM (Below.refl w.heap.size w)
 have H : (if qF < 1 then (prog_Check.j0 k true qF qE qA qD) else (if qF > qE then (prog_Check.j0 k true qF qE qA qD) else (if qE > 128 then (prog_Check.j0 k true qF qE qA qD) else (if (qA.length : Int) > 16384 then (prog_Check.j0 k true qF qE qA qD) else (if (qD.length : Int) < 1 then (prog_Check.j0 k true qF qE qA qD) else (prog_Check.j0 k (decide (128 < qD.length)) qF qE qA qD)))))) = some (r1, r2) := h
 clear h
 have HC2 := aM H
 clear H
 go_enter Try.func39, Try.ntmps39
 go_upto_region 1 with (first | ((with_reducible refine gate_dst (N := 1) rfl ?_); (try (refine gate_guard (by rfl) ?_; dsimp only)); refine z16_ rfl (N := 1) rfl (cs := #[.int .i64 qF, .int .i64 qE, .slice qQ qA.length qR, .slice qS qD.length qT]) (t := 26) zG ?_; intro qH hg w3 hbox hb; have qC := aM (hbox); have q8 := aM ((by rw [hg]; exact (z4_ (lB HB)) : w.heap.size ≤ qH)); have q9 := aM ((by rw [hg]; exact (z4_ (lB HB)) : w.heap.size ≤ qH)); replace HB := aM (z6_ (lB HB) hb); clear hb hbox hg))
 (try simp only [Act.put, List.setIfInBounds_toArray, List.set_cons_zero, List.set_cons_succ])
 go_cut [40] (fun v40 wc => ∃ (kq : Nat) (qU : Bool), v40 = .bool qU ∧ Aside0 (prog_Check.j0 kq qU qF qE qA qD = some (r1, r2)) ∧ Aside0 (kq ≤ k) ∧ Aside0 (wc.heap[qH]? = some (.cells #[.int .i64 qF, .int .i64 qE, (.slice qQ qA.length qR), (.slice qS qD.length qT)] 26 (0, 0))) ∧ Aside0 (Below w.heap.size w wc))
 case first =>
  have H := HC2.out
  clear HC2
  by_cases c4 : qF < 1
  ·rw [if_pos c4] at H
   have c4b0 := decide_eq_true c4
   clear c4
   (first | rw [c4b0] | (simp only [i64_w, i32_w]; rw [c4b0]) | skip)
   have H' := aM H
   clear H
   have q0 := zc4 qC.out
   have q1 := fun i_ : Nat => z1_ qC.out i_
   go_wp2
   go_meet
   case rel => exact ⟨_, (true), zT, H', ⟨zO⟩, ⟨zb qC⟩, ⟨zB HB⟩⟩
  ·rw [if_neg c4] at H
   have c4b0 := decide_eq_false c4
   clear c4
   (first | rw [c4b0] | (simp only [i64_w, i32_w]; rw [c4b0]) | skip)
   by_cases c6 : qF > qE
   ·rw [if_pos c6] at H
    have c6b0 := decide_eq_true c6
    clear c6
    have H' := aM H
    clear H
    have q2 := zc4 qC.out
    have q3 := fun i_ : Nat => z1_ qC.out i_
    go_wp2
    go_meet
    case rel => exact ⟨_, (true), zT, H', ⟨zO⟩, ⟨zb qC⟩, ⟨zB HB⟩⟩
   ·rw [if_neg c6] at H
    have c6b0 := decide_eq_false c6
    clear c6
    by_cases c8 : qE > 128
    ·rw [if_pos c8] at H
     have c8b0 := decide_eq_true c8
     clear c8
     have H' := aM H
     clear H
     have q4 := zc4 qC.out
     have q5 := fun i_ : Nat => z1_ qC.out i_
     go_wp2
     go_meet
     case rel => exact ⟨_, (true), zT, H', ⟨zO⟩, ⟨zb qC⟩, ⟨zB HB⟩⟩
    ·rw [if_neg c8] at H
     have c8b0 := decide_eq_false c8
     clear c8
     by_cases c10 : (qA.length : Int) > 16384
     ·rw [if_pos c10] at H
      have c10b0 := decide_eq_true c10
      have c10b1 : decide (16384 < qA.length) = true := decide_eq_true (by omega)
      clear c10
      have H' := aM H
      clear H
      have qe := zc4 qC.out
      have qf := fun i_ : Nat => z1_ qC.out i_
      go_wp2
      go_meet
      case rel => exact ⟨_, (true), zT, H', ⟨zO⟩, ⟨zb qC⟩, ⟨zB HB⟩⟩
     ·rw [if_neg c10] at H
      have c10b0 := decide_eq_false c10
      have c10b1 : decide (16384 < qA.length) = false := decide_eq_false (by omega)
      clear c10
      by_cases c12 : (qD.length : Int) < 1
      ·rw [if_pos c12] at H
       have c12b0 := decide_eq_true c12
       have c12b1 : decide (qD.length < 1) = true := decide_eq_true (by omega)
       clear c12
       have H' := aM H
       clear H
       have qg := zc4 qC.out
       have qh := fun i_ : Nat => z1_ qC.out i_
       go_wp2
       go_meet
       case rel => exact ⟨_, (true), zT, H', ⟨zO⟩, ⟨zb qC⟩, ⟨zB HB⟩⟩
      ·rw [if_neg c12] at H
       have c12b0 := decide_eq_false c12
       have c12b1 : decide (qD.length < 1) = false := decide_eq_false (by omega)
       clear c12
       have H' := aM H
       clear H
       have qi := zc4 qC.out
       have qj := fun i_ : Nat => z1_ qC.out i_
       go_wp2
       go_meet
       case rel => exact ⟨_, (decide (128 < qD.length)), (by first | rfl | (simp; done) | (simp [*]; done) | (simp; omega)), H', ⟨zO⟩, ⟨zb qC⟩, ⟨zB HB⟩⟩
 case rest =>
  clear HC2
  obtain ⟨kq, qU, rfl, HA, HJ1, qC, HB⟩ := hcut
  cases kq with
  | zero => exact absurd HA.out (by simp [prog_Check.j0])
  | succ kj1 =>
   have H := HA.out
   clear HA
   simp only [prog_Check.j0] at H
   by_cases c15 : qU = true
   ·subst c15
    have H1 : (some ((-1), 80)) = some (r1, r2) := by rw [if_pos rfl] at H; exact H
    clear H
    have H := H1
    clear H1
    simp only [Option.some.injEq, Prod.mk.injEq] at H
    obtain ⟨rfl, rfl⟩ := H
    go_wp2
    go_ret2
    exact ⟨zE, zB HB⟩
   ·replace c15 := Bool.eq_false_iff.mpr c15
    subst c15
    have H1 : (prog_Check.l0 kj1 qD (qD.length : Int) 0 qF qE qA qD) = some (r1, r2) := by rw [if_neg (show ¬ (false = true) by decide)] at H; exact H
    clear H
    have H := H1
    clear H1
    have H' := aM H
    clear H
    have qk := zc4 qC.out
    have ql := fun i_ : Nat => z1_ qC.out i_
    go_wp2
    go_loopg [44] kj1 (fun kq v44 w' => ∃ (qG : Int), v44 = .int .i64 qG ∧ Aside0 (prog_Check.l0 kq qD (qD.length : Int) qG qF qE qA qD = some (r1, r2)) ∧ Aside0 (kq ≤ kj1) ∧ Aside0 (w'.heap[qH]? = some (.cells #[.int .i64 qF, .int .i64 qE, (.slice qQ qA.length qR), (.slice qS qD.length qT)] 26 (0, 0))) ∧ Aside0 (Below w.heap.size w w'))
    case atStart => exact ⟨(0), zT, H', ⟨Nat.le_refl _⟩, ⟨zb qC⟩, ⟨zB HB⟩⟩
    case round =>
     clear H'
     try clear c15
     obtain ⟨qG, rfl, HA, HK2, qC, HB⟩ := hrel
     cases gk with
     | zero => exact absurd HA.out (by simp [prog_Check.l0])
     | succ k2 =>
      have H := HA.out
      clear HA
      simp only [prog_Check.l0] at H
      by_cases c17 : qG < (qD.length : Int)
      ·rw [if_pos c17] at H
       have c17b0 := decide_eq_true c17
       clear c17
       by_cases c18 : 0 ≤ qG
       ·rw [if_pos c18] at H
        have c18b0 := decide_eq_true c18
        clear c18
        by_cases c19 : qG < (qD.length : Int)
        ·rw [if_pos c19] at H
         have c19b0 := decide_eq_true c19
         clear c19
         by_cases c20 : (rd qD qG) < 0
         ·rw [if_pos c20] at H
          have c20b0 := decide_eq_true c20
          clear c20
          simp only [Option.some.injEq, Prod.mk.injEq] at H
          obtain ⟨rfl, rfl⟩ := H
          have p136 : 0 ≤ (qG : Int) := of_decide_eq_true za
          have q136 : qG < (qD.length : Int) := of_decide_eq_true za
          obtain ⟨ad136, e136, hx136_0⟩ := Kd.at_int qW.out qG p136 q136
          cases e136
          replace hx136_0 := (HB.out.cell (World.block_lt_of_cell? w _ hx136_0)).trans hx136_0
          replace p136 := eq_true p136
          replace q136 := eq_true q136
          go_wp2
          go_ret2
          exact ⟨zE, zB HB⟩
         ·rw [if_neg c20] at H
          have c20b0 := decide_eq_false c20
          clear c20
          by_cases c21 : (rd qD qG) ≥ qE
          ·rw [if_pos c21] at H
           have c21b0 := decide_eq_true c21
           clear c21
           simp only [Option.some.injEq, Prod.mk.injEq] at H
           obtain ⟨rfl, rfl⟩ := H
           have p136 : 0 ≤ (qG : Int) := of_decide_eq_true za
           have q136 : qG < (qD.length : Int) := of_decide_eq_true za
           obtain ⟨ad136, e136, hx136_0⟩ := Kd.at_int qW.out qG p136 q136
           cases e136
           replace hx136_0 := (HB.out.cell (World.block_lt_of_cell? w _ hx136_0)).trans hx136_0
           replace p136 := eq_true p136
           replace q136 := eq_true q136
           have qm := zc4 qC.out
           have qn := fun i_ : Nat => z1_ qC.out i_
           go_wp2
           go_ret2
           exact ⟨zE, zB HB⟩
          ·rw [if_neg c21] at H
           have c21b0 := decide_eq_false c21
           clear c21
           have H' := aM H
           clear H
           have p136 : 0 ≤ (qG : Int) := of_decide_eq_true za
           have q136 : qG < (qD.length : Int) := of_decide_eq_true za
           obtain ⟨ad136, e136, hx136_0⟩ := Kd.at_int qW.out qG p136 q136
           cases e136
           replace hx136_0 := (HB.out.cell (World.block_lt_of_cell? w _ hx136_0)).trans hx136_0
           replace p136 := eq_true p136
           replace q136 := eq_true q136
           have qo := zc4 qC.out
           have qp := fun i_ : Nat => z1_ qC.out i_
           go_wp2
           go_roundg k2
           case measure => have := HJ1.out; have := HK2.out; omega
           case rel => exact ⟨(wrap64 (qG + 1)), zT, H', ⟨by have := HJ1.out; have := HK2.out; omega⟩, ⟨zb qC⟩, ⟨zB HB⟩⟩
        ·rw [if_neg c19] at H
         exact absurd H (by simp)
       ·rw [if_neg c18] at H
        exact absurd H (by simp)
      ·rw [if_neg c17] at H
       have c17b0 := decide_eq_false c17
       clear c17
       have H' := aM H
       clear H
       have qq := zc4 qC.out
       have qr := fun i_ : Nat => z1_ qC.out i_
       go_wp2
       go_loopg [60] k2 (fun kq v60 w' => ∃ (qB : Int), v60 = .int .i64 qB ∧ Aside0 (prog_Check.l1 kq qA (qA.length : Int) qB qF qE qA qD = some (r1, r2)) ∧ Aside0 (kq ≤ k2) ∧ Aside0 (w'.heap[qH]? = some (.cells #[.int .i64 qF, .int .i64 qE, (.slice qQ qA.length qR), (.slice qS qD.length qT)] 26 (0, 0))) ∧ Aside0 (Below w.heap.size w w'))
       case atStart => exact ⟨(0), zT, H', ⟨Nat.le_refl _⟩, ⟨zb qC⟩, ⟨zB HB⟩⟩
       case round =>
        clear H'
        try clear c15
        try clear c17
        obtain ⟨qB, rfl, HA, HK3, qC, HB⟩ := hrel
        cases gk with
        | zero => exact absurd HA.out (by simp [prog_Check.l1])
        | succ k3 =>
         have H := HA.out
         clear HA
         simp only [prog_Check.l1] at H
         by_cases c25 : qB < (qA.length : Int)
         ·rw [if_pos c25] at H
          have c25b0 := decide_eq_true c25
          clear c25
          by_cases c26 : 0 ≤ qB
          ·rw [if_pos c26] at H
           have c26b0 := decide_eq_true c26
           clear c26
           by_cases c27 : qB < (qA.length : Int)
           ·rw [if_pos c27] at H
            have c27b0 := decide_eq_true c27
            clear c27
            replace H := zbs H
            obtain ⟨qV, A280, H⟩ := H
            replace H : (if qV = true then (prog_Check.l1 k3 qA (qA.length : Int) (wrap64 (qB + 1)) qF qE qA qD) else (some (qB, 80))) = some (r1, r2) := H
            have A28 := aM A280
            clear A280
            by_cases c29 : qV = true
            ·subst c29
             have H1 : (prog_Check.l1 k3 qA (qA.length : Int) (wrap64 (qB + 1)) qF qE qA qD) = some (r1, r2) := by rw [if_pos rfl] at H; exact H
             clear H
             have H := H1
             clear H1
             have H' := aM H
             clear H
             have p137 : 0 ≤ (qB : Int) := of_decide_eq_true za
             have q137 : qB < (qA.length : Int) := of_decide_eq_true za
             obtain ⟨ad137, e137, hx137_0, hx137_1, hx137_2, hx137_3, hx137_4⟩ := at_T63 qb.out qB p137 q137
             cases e137
             replace hx137_0 := (HB.out.cell (World.block_lt_of_cell? w _ hx137_0)).trans hx137_0
             replace hx137_1 := (HB.out.cell (World.block_lt_of_cell? w _ hx137_1)).trans hx137_1
             replace hx137_2 := (HB.out.cell (World.block_lt_of_cell? w _ hx137_2)).trans hx137_2
             replace hx137_3 := (HB.out.cell (World.block_lt_of_cell? w _ hx137_3)).trans hx137_3
             replace hx137_4 := (HB.out.cell (World.block_lt_of_cell? w _ hx137_4)).trans hx137_4
             replace p137 := eq_true p137
             replace q137 := eq_true q137
             go_wp2_with (first | ((with_reducible refine gate_dst (N := 7) rfl ?_); (try (refine gate_guard (by rfl) ?_; dsimp only)); refine z16_ rfl (N := 7) rfl (cs := #[.int .i64 0, .int .i64 0, .int .i64 0, .int .i64 0, .int .i64 0]) (t := 63) zG ?_; intro qL hg w30 hbox hb; have qM := aM (hbox); have qc := aM ((by rw [hg]; exact (z4_ (zB HB)) : w.heap.size ≤ qL)); have qd := aM ((by rw [hg]; exact (z4_ (zB HB)) : w.heap.size ≤ qL)); replace HB := aM (z6_ (zB HB) hb); have qO := aM ((by rw [hg]; exact Nat.ne_of_lt (z19_ (g := qH) (lK qC)) : qH ≠ qL)); have qP := aM ((by rw [hg]; exact Nat.ne_of_gt (z19_ (g := qH) (lK qC)) : qL ≠ qH)); replace qC := aM (z5_ (g := qH) (lK qC) hb); clear hb hbox hg; have jA := qP.out; have jB := qO.out; have qs := zc5 qM.out; have qt := fun i_ : Nat => z1_ qM.out i_; have qu := zc4 qC.out; have qv := fun i_ : Nat => z1_ qC.out i_) | ((with_reducible refine gate_callee (f := 58) rfl ?_); refine z13_ (some 68) rfl rfl Try.func58 zk rfl #[.agg #[.int .i64 ((rd_T63 qA qB).f0), .int .i64 ((rd_T63 qA qB).f1), .int .i64 ((rd_T63 qA qB).f2), .int .i64 ((rd_T63 qA qB).f3), .int .i64 ((rd_T63 qA qB).f4)], .int .i64 qE] rfl zA ?_; (with_reducible refine (prog_may.calls k3 ((rd_T63 qA qB).f0) ((rd_T63 qA qB).f1) ((rd_T63 qA qB).f2) ((rd_T63 qA qB).f3) ((rd_T63 qA qB).f4) qE true _ A28.out).mono ?_); rintro e w34 ⟨rfl, hb⟩; refine ⟨_, rfl, ?_⟩; replace qC := aM (z5_ (g := qH) (zb qC) hb); replace qM := aM (z5_ (g := qL) (o := .cells #[.int .i64 ((rd_T63 qA qB).f0), .int .i64 ((rd_T63 qA qB).f1), .int .i64 ((rd_T63 qA qB).f2), .int .i64 ((rd_T63 qA qB).f3), .int .i64 ((rd_T63 qA qB).f4)] 63 (0, 0)) (by refine lZ ?_; refine blk_put (cs := #[.int .i64 ((rd_T63 qA qB).f0), .int .i64 ((rd_T63 qA qB).f1), .int .i64 ((rd_T63 qA qB).f2), .int .i64 ((rd_T63 qA qB).f3), .int .i64 0]) ?_ 4 _ rfl; refine lZ ?_; refine blk_put (cs := #[.int .i64 ((rd_T63 qA qB).f0), .int .i64 ((rd_T63 qA qB).f1), .int .i64 ((rd_T63 qA qB).f2), .int .i64 0, .int .i64 0]) ?_ 3 _ rfl; refine lZ ?_; refine blk_put (cs := #[.int .i64 ((rd_T63 qA qB).f0), .int .i64 ((rd_T63 qA qB).f1), .int .i64 0, .int .i64 0, .int .i64 0]) ?_ 2 _ rfl; refine lZ ?_; refine blk_put (cs := #[.int .i64 ((rd_T63 qA qB).f0), .int .i64 0, .int .i64 0, .int .i64 0, .int .i64 0]) ?_ 1 _ rfl; refine lZ ?_; refine blk_put (cs := #[.int .i64 0, .int .i64 0, .int .i64 0, .int .i64 0, .int .i64 0]) ?_ 0 _ rfl; refine lZ ?_; exact qM.out) hb); replace HB := aM (z6_ (zB HB) hb); (try clear hb)))
             go_roundg k3
             case measure => have := HJ1.out; have := HK2.out; have := HK3.out; omega
             case rel => exact ⟨(wrap64 (qB + 1)), zT, H', ⟨by have := HJ1.out; have := HK2.out; have := HK3.out; omega⟩, ⟨zb qC⟩, ⟨zB HB⟩⟩
            ·replace c29 := Bool.eq_false_iff.mpr c29
             subst c29
             have H1 : (some (qB, 80)) = some (r1, r2) := by rw [if_neg (show ¬ (false = true) by decide)] at H; exact H
             clear H
             have H := H1
             clear H1
             simp only [Option.some.injEq, Prod.mk.injEq] at H
             obtain ⟨rfl, rfl⟩ := H
             have p137 : 0 ≤ (qB : Int) := of_decide_eq_true za
             have q137 : qB < (qA.length : Int) := of_decide_eq_true za
             obtain ⟨ad137, e137, hx137_0, hx137_1, hx137_2, hx137_3, hx137_4⟩ := at_T63 qb.out qB p137 q137
             cases e137
             replace hx137_0 := (HB.out.cell (World.block_lt_of_cell? w _ hx137_0)).trans hx137_0
             replace hx137_1 := (HB.out.cell (World.block_lt_of_cell? w _ hx137_1)).trans hx137_1
             replace hx137_2 := (HB.out.cell (World.block_lt_of_cell? w _ hx137_2)).trans hx137_2
             replace hx137_3 := (HB.out.cell (World.block_lt_of_cell? w _ hx137_3)).trans hx137_3
             replace hx137_4 := (HB.out.cell (World.block_lt_of_cell? w _ hx137_4)).trans hx137_4
             replace p137 := eq_true p137
             replace q137 := eq_true q137
             go_wp2_with (first | ((with_reducible refine gate_dst (N := 7) rfl ?_); (try (refine gate_guard (by rfl) ?_; dsimp only)); refine z16_ rfl (N := 7) rfl (cs := #[.int .i64 0, .int .i64 0, .int .i64 0, .int .i64 0, .int .i64 0]) (t := 63) zG ?_; intro qL hg w35 hbox hb; have qM := aM (hbox); have qc := aM ((by rw [hg]; exact (z4_ (zB HB)) : w.heap.size ≤ qL)); have qd := aM ((by rw [hg]; exact (z4_ (zB HB)) : w.heap.size ≤ qL)); replace HB := aM (z6_ (zB HB) hb); have qO := aM ((by rw [hg]; exact Nat.ne_of_lt (z19_ (g := qH) (lK qC)) : qH ≠ qL)); have qP := aM ((by rw [hg]; exact Nat.ne_of_gt (z19_ (g := qH) (lK qC)) : qL ≠ qH)); replace qC := aM (z5_ (g := qH) (lK qC) hb); clear hb hbox hg; have jC := qP.out; have jD := qO.out; have qw := zc5 qM.out; have qx := fun i_ : Nat => z1_ qM.out i_; have qy := zc4 qC.out; have qz := fun i_ : Nat => z1_ qC.out i_) | ((with_reducible refine gate_callee (f := 58) rfl ?_); refine z13_ (some 68) rfl rfl Try.func58 zk rfl #[.agg #[.int .i64 ((rd_T63 qA qB).f0), .int .i64 ((rd_T63 qA qB).f1), .int .i64 ((rd_T63 qA qB).f2), .int .i64 ((rd_T63 qA qB).f3), .int .i64 ((rd_T63 qA qB).f4)], .int .i64 qE] rfl zA ?_; (with_reducible refine (prog_may.calls k3 ((rd_T63 qA qB).f0) ((rd_T63 qA qB).f1) ((rd_T63 qA qB).f2) ((rd_T63 qA qB).f3) ((rd_T63 qA qB).f4) qE false _ A28.out).mono ?_); rintro e w39 ⟨rfl, hb⟩; refine ⟨_, rfl, ?_⟩; replace qC := aM (z5_ (g := qH) (zb qC) hb); replace qM := aM (z5_ (g := qL) (o := .cells #[.int .i64 ((rd_T63 qA qB).f0), .int .i64 ((rd_T63 qA qB).f1), .int .i64 ((rd_T63 qA qB).f2), .int .i64 ((rd_T63 qA qB).f3), .int .i64 ((rd_T63 qA qB).f4)] 63 (0, 0)) (by refine lZ ?_; refine blk_put (cs := #[.int .i64 ((rd_T63 qA qB).f0), .int .i64 ((rd_T63 qA qB).f1), .int .i64 ((rd_T63 qA qB).f2), .int .i64 ((rd_T63 qA qB).f3), .int .i64 0]) ?_ 4 _ rfl; refine lZ ?_; refine blk_put (cs := #[.int .i64 ((rd_T63 qA qB).f0), .int .i64 ((rd_T63 qA qB).f1), .int .i64 ((rd_T63 qA qB).f2), .int .i64 0, .int .i64 0]) ?_ 3 _ rfl; refine lZ ?_; refine blk_put (cs := #[.int .i64 ((rd_T63 qA qB).f0), .int .i64 ((rd_T63 qA qB).f1), .int .i64 0, .int .i64 0, .int .i64 0]) ?_ 2 _ rfl; refine lZ ?_; refine blk_put (cs := #[.int .i64 ((rd_T63 qA qB).f0), .int .i64 0, .int .i64 0, .int .i64 0, .int .i64 0]) ?_ 1 _ rfl; refine lZ ?_; refine blk_put (cs := #[.int .i64 0, .int .i64 0, .int .i64 0, .int .i64 0, .int .i64 0]) ?_ 0 _ rfl; refine lZ ?_; exact qM.out) hb); replace HB := aM (z6_ (zB HB) hb); (try clear hb)))
             go_ret2
             exact ⟨zE, zB HB⟩
           ·rw [if_neg c27] at H
            exact absurd H (by simp)
          ·rw [if_neg c26] at H
           exact absurd H (by simp)
         ·rw [if_neg c25] at H
          have c25b0 := decide_eq_false c25
          clear c25
          simp only [Option.some.injEq, Prod.mk.injEq] at H
          obtain ⟨rfl, rfl⟩ := H
          go_wp2
          go_ret2
          exact ⟨zE, zB HB⟩
end Go.Proofs.Ytccbdcbeinkjgaa.XA
end
section
namespace Go.Proofs.Ytccbdcbeinkjgaa.XA
open Go.Proofs.Ytccbdcbeinkjgaa.Lift Go.RowKit Go.Proofs.YtccbdcbeinkjgaaW.PrintWords Go.Proofs.YtccbdcbeinkjgaaW.PrintLast Go.Proofs.YtccbdcbeinkjgaaW.PrintMore
attribute [local go_sem] max2_int min2_int max_two min_two max_three min_three max_four min_four
mutual
def code_May.j0 : Nat → Bool → Int → Int → List (S48) → Int → Int → List (S63) → List Int → Int → Int → List (S63) → List Int → Int → Int → List (S63) → List Int → Option (Int)
 | 0, _, _, _, _, _, _, _, _, _, _, _, _, _, _, _, _ => none
 | k + 1, x32, qf, qg, qS, qT, qU, qV, qW, qX, qY, qZ, qa, qb, qc, qd, qe => if x32 = true then (some 2) else (code_May.l0 k qS (qS.length : Int) 0 qf qg qS qT qU qV qW qX qY qZ qa qb qc qd qe)
def code_May.l0 : Nat → List (S48) → Int → Int → Int → Int → List (S48) → Int → Int → List (S63) → List Int → Int → Int → List (S63) → List Int → Int → Int → List (S63) → List Int → Option (Int)
 | 0, _, _, _, _, _, _, _, _, _, _, _, _, _, _, _, _, _, _ => none
 | k + 1, x34, x35, x36, qf, qg, qS, qT, qU, qV, qW, qX, qY, qZ, qa, qb, qc, qd, qe => if x36 < x35 then (if 0 ≤ x36 then (if x36 < (x34.length : Int) then ((point_In.f ((rd_T48 x34 x36).f0) ((rd_T48 x34 x36).f1)).bind fun q4 => (if q4 = true then (code_May.l0 k x34 x35 (wrap64 (x36 + 1)) qf qg qS qT qU qV qW qX qY qZ qa qb qc qd qe) else (some 2))) else (none)) else (none)) else ((code_programs.f 140).bind fun jW => (code_May.l1 k 0 qf qg qS qT qU qV qW qX qY qZ qa qb qc qd qe))
def code_May.l1 : Nat → Int → Int → Int → List (S48) → Int → Int → List (S63) → List Int → Int → Int → List (S63) → List Int → Int → Int → List (S63) → List Int → Option (Int)
 | 0, _, _, _, _, _, _, _, _, _, _, _, _, _, _, _, _ => none
 | k + 1, x45, qf, qg, qS, qT, qU, qV, qW, qX, qY, qZ, qa, qb, qc, qd, qe => if x45 < 3 then (if x45 = 0 then ((prog_Check.f k qT qU qV qW).bind fun bt145 => (if bt145.2 = 0 then (code_May.l1 k (0 + 1) qf qg qS qT qU qV qW qX qY qZ qa qb qc qd qe) else (some bt145.2))) else (if x45 = 1 then ((prog_Check.f k qX qY qZ qa).bind fun bt147 => (if bt147.2 = 0 then (code_May.l1 k (1 + 1) qf qg qS qT qU qV qW qX qY qZ qa qb qc qd qe) else (some bt147.2))) else (if x45 = 2 then ((prog_Check.f k qb qc qd qe).bind fun bt149 => (if bt149.2 = 0 then (code_May.l1 k (2 + 1) qf qg qS qT qU qV qW qX qY qZ qa qb qc qd qe) else (some bt149.2))) else (none)))) else (some 0)
end
def code_May.f (k : Nat) (qL : Int) (qM : Int) (qB : List (S48)) (qO : Int) (qP : Int) (qI : List (S63)) (qJ : List Int) (qQ : Int) (qR : Int) (qK : List (S63)) (qC : List Int) (qF : Int) (qG : Int) (qD : List (S63)) (qE : List Int) : Option (Int) := if qL < 1 then (code_May.j0 k true qL qM qB qO qP qI qJ qQ qR qK qC qF qG qD qE) else (if qM < 1 then (code_May.j0 k true qL qM qB qO qP qI qJ qQ qR qK qC qF qG qD qE) else (if qL > 8 then (code_May.j0 k true qL qM qB qO qP qI qJ qQ qR qK qC qF qG qD qE) else (if qM > 8 then (code_May.j0 k true qL qM qB qO qP qI qJ qQ qR qK qC qF qG qD qE) else (code_May.j0 k (decide (255 < qB.length)) qL qM qB qO qP qI qJ qQ qR qK qC qF qG qD qE))))
theorem code_May.mono_l : ∀ k, (∀ y0 y1 y2 y3 y4 y5 y6 y7 y8 y9 y10 y11 y12 y13 y14 y15, LeO (code_May.j0 k y0 y1 y2 y3 y4 y5 y6 y7 y8 y9 y10 y11 y12 y13 y14 y15) (code_May.j0 (k + 1) y0 y1 y2 y3 y4 y5 y6 y7 y8 y9 y10 y11 y12 y13 y14 y15)) ∧ (∀ y0 y1 y2 y3 y4 y5 y6 y7 y8 y9 y10 y11 y12 y13 y14 y15 y16 y17, LeO (code_May.l0 k y0 y1 y2 y3 y4 y5 y6 y7 y8 y9 y10 y11 y12 y13 y14 y15 y16 y17) (code_May.l0 (k + 1) y0 y1 y2 y3 y4 y5 y6 y7 y8 y9 y10 y11 y12 y13 y14 y15 y16 y17)) ∧ (∀ y0 y1 y2 y3 y4 y5 y6 y7 y8 y9 y10 y11 y12 y13 y14 y15, LeO (code_May.l1 k y0 y1 y2 y3 y4 y5 y6 y7 y8 y9 y10 y11 y12 y13 y14 y15) (code_May.l1 (k + 1) y0 y1 y2 y3 y4 y5 y6 y7 y8 y9 y10 y11 y12 y13 y14 y15))
 | 0 => ⟨fun _ _ _ _ _ _ _ _ _ _ _ _ _ _ _ _ r h => by simp [code_May.j0] at h, fun _ _ _ _ _ _ _ _ _ _ _ _ _ _ _ _ _ _ r h => by simp [code_May.l0] at h, fun _ _ _ _ _ _ _ _ _ _ _ _ _ _ _ _ r h => by simp [code_May.l1] at h⟩
 | k + 1 => by
  obtain ⟨ih0, ih1, ih2⟩ := code_May.mono_l k
  refine ⟨?_, ?_, ?_⟩
  ·intro y0 y1 y2 y3 y4 y5 y6 y7 y8 y9 y10 y11 y12 y13 y14 y15
   unfold code_May.j0
   have im0 := @prog_Check.mono; exact zM
  ·intro y0 y1 y2 y3 y4 y5 y6 y7 y8 y9 y10 y11 y12 y13 y14 y15 y16 y17
   unfold code_May.l0
   have im0 := @prog_Check.mono; exact zM
  ·intro y0 y1 y2 y3 y4 y5 y6 y7 y8 y9 y10 y11 y12 y13 y14 y15
   unfold code_May.l1
   have im0 := @prog_Check.mono; exact zM
theorem code_May.mono : ∀ a0 a1 a2 a3 a4 a5 a6 a7 a8 a9 a10 a11 a12 a13 a14 k, LeO (code_May.f k a0 a1 a2 a3 a4 a5 a6 a7 a8 a9 a10 a11 a12 a13 a14) (code_May.f (k + 1) a0 a1 a2 a3 a4 a5 a6 a7 a8 a9 a10 a11 a12 a13 a14) := by
 intro a0 a1 a2 a3 a4 a5 a6 a7 a8 a9 a10 a11 a12 a13 a14 k
 obtain ⟨ih0, ih1, ih2⟩ := code_May.mono_l k
 unfold code_May.f
 have im0 := @prog_Check.mono; exact zM
theorem code_May.calls (k : Nat) (qL : Int) (qM : Int) (q1 : Option Addr) (q2 : Nat) (qB : List (S48)) (qO : Int) (qP : Int) (qt : Option Addr) (qu : Nat) (qI : List (S63)) (qv : Option Addr) (qw : Nat) (qJ : List Int) (qQ : Int) (qR : Int) (qx : Option Addr) (qy : Nat) (qK : List (S63)) (qj : Option Addr) (qk : Nat) (qC : List Int) (qF : Int) (qG : Int) (ql : Option Addr) (qm : Nat) (qD : List (S63)) (qn : Option Addr) (qo : Nat) (qE : List Int) (r : Int) (w : World) (jH : Kd.C k48 w q1 qB.length qB) (jI : qB.length ≤ q2) (jJ : Kd.C k63 w qt qI.length qI) (jK : qI.length ≤ qu) (jL : Kd.C (Kd.int .i64) w qv qJ.length qJ) (jM : qJ.length ≤ qw) (jN : Kd.C k63 w qx qK.length qK) (jO : qK.length ≤ qy) (q5 : Kd.C (Kd.int .i64) w qj qC.length qC) (q6 : qC.length ≤ qk) (q7 : Kd.C k63 w ql qD.length qD) (q8 : qD.length ≤ qm) (q9 : Kd.C (Kd.int .i64) w qn qE.length qE) (jA : qE.length ≤ qo) (h : code_May.f k qL qM qB qO qP qI qJ qQ qR qK qC qF qG qD qE = some r) :
  Calls Try.prog 20 #[.agg #[.int .i64 qL, .int .i64 qM, .slice q1 qB.length q2, .int .i64 qO, .int .i64 qP, .slice qt qI.length qu, .slice qv qJ.length qw, .int .i64 qQ, .int .i64 qR, .slice qx qK.length qy, .slice qj qC.length qk, .int .i64 qF, .int .i64 qG, .slice ql qD.length qm, .slice qn qE.length qo]] w fun e w' => e = .returned (.int .i64 r) ∧ Below w.heap.size w w' := by
 have hu28 := Try.underlying28
 have hu48 := Try.underlying48
 have hu26 := Try.underlying26
 have jP := aM jH
 have j8 := aM jI
 clear jH jI
 have jQ := aM jJ
 have jR := aM jK
 clear jJ jK
 have jS := aM jL
 have jT := aM jM
 clear jL jM
 have jU := aM jN
 have jV := aM jO
 clear jN jO
 have jB := aM q5
 have jC := aM q6
 clear q5 q6
 have jD := aM q7
 have jE := aM q8
 clear q7 q8
 have jF := aM q9
 have jG := aM jA
 clear q9 jA
 have HB := aM (Below.refl w.heap.size w)
 have H : (if qL < 1 then (code_May.j0 k true qL qM qB qO qP qI qJ qQ qR qK qC qF qG qD qE) else (if qM < 1 then (code_May.j0 k true qL qM qB qO qP qI qJ qQ qR qK qC qF qG qD qE) else (if qL > 8 then (code_May.j0 k true qL qM qB qO qP qI qJ qQ qR qK qC qF qG qD qE) else (if qM > 8 then (code_May.j0 k true qL qM qB qO qP qI qJ qQ qR qK qC qF qG qD qE) else (code_May.j0 k (decide (255 < qB.length)) qL qM qB qO qP qI qJ qQ qR qK qC qF qG qD qE))))) = some r := h
 clear h
 have HC2 := aM H
 clear H
 have jc : ∀ (g_ : Nat) (W : World), Sem.run Try.prog (Instr.index 58 (.agg #[.pointer (some ⟨g_, 3, none⟩), .pointer (some ⟨g_, 7, none⟩), .pointer (some ⟨g_, 11, none⟩)]) (.int .i64 0)) W = .ok (.pointer (some ⟨g_, 3, none⟩)) W := fun _ _ => by kernel_rfl
 have jd : ∀ (g_ : Nat) (W : World), Sem.run Try.prog (Instr.index 58 (.agg #[.pointer (some ⟨g_, 3, none⟩), .pointer (some ⟨g_, 7, none⟩), .pointer (some ⟨g_, 11, none⟩)]) (.int .i64 1)) W = .ok (.pointer (some ⟨g_, 7, none⟩)) W := fun _ _ => by kernel_rfl
 have je : ∀ (g_ : Nat) (W : World), Sem.run Try.prog (Instr.index 58 (.agg #[.pointer (some ⟨g_, 3, none⟩), .pointer (some ⟨g_, 7, none⟩), .pointer (some ⟨g_, 11, none⟩)]) (.int .i64 2)) W = .ok (.pointer (some ⟨g_, 11, none⟩)) W := fun _ _ => by kernel_rfl
 go_enter Try.func20, Try.ntmps20
 go_upto_region 1 with (first | ((with_reducible refine gate_dst (N := 1) rfl ?_); (try (refine gate_guard (by rfl) ?_; dsimp only)); refine z16_ rfl (N := 1) rfl (cs := #[.int .i64 qL, .int .i64 qM, .slice q1 qB.length q2, .int .i64 qO, .int .i64 qP, .slice qt qI.length qu, .slice qv qJ.length qw, .int .i64 qQ, .int .i64 qR, .slice qx qK.length qy, .slice qj qC.length qk, .int .i64 qF, .int .i64 qG, .slice ql qD.length qm, .slice qn qE.length qo]) (t := 28) zG ?_; intro qN hg w3 hbox hb; have qA := aM (hbox); have j9 := aM ((by rw [hg]; exact (z4_ (lB HB)) : w.heap.size ≤ qN)); have yA := aM ((by rw [hg]; exact (z4_ (lB HB)) : w.heap.size ≤ qN)); replace HB := aM (z6_ (lB HB) hb); clear hb hbox hg))
 (try simp only [Act.put, List.setIfInBounds_toArray, List.set_cons_zero, List.set_cons_succ])
 go_cut [32] (fun v32 wc => ∃ (kq : Nat) (q3 : Bool), v32 = .bool q3 ∧ Aside0 (code_May.j0 kq q3 qL qM qB qO qP qI qJ qQ qR qK qC qF qG qD qE = some r) ∧ Aside0 (kq ≤ k) ∧ Aside0 (wc.heap[qN]? = some (.cells #[.int .i64 qL, .int .i64 qM, (.slice q1 qB.length q2), .int .i64 qO, .int .i64 qP, (.slice qt qI.length qu), (.slice qv qJ.length qw), .int .i64 qQ, .int .i64 qR, (.slice qx qK.length qy), (.slice qj qC.length qk), .int .i64 qF, .int .i64 qG, (.slice ql qD.length qm), (.slice qn qE.length qo)] 28 (0, 0))) ∧ Aside0 (Below w.heap.size w wc))
 case first =>
  have H := HC2.out
  clear HC2
  by_cases c4 : qL < 1
  ·rw [if_pos c4] at H
   have c4b0 := decide_eq_true c4
   clear c4
   (first | rw [c4b0] | (simp only [i64_w, i32_w]; rw [c4b0]) | skip)
   have H' := aM H
   clear H
   have j2 := zc15 qA.out
   have j3 := fun i_ : Nat => z1_ qA.out i_
   go_wp2
   go_meet
   case rel => exact ⟨_, (true), zT, H', ⟨zO⟩, ⟨zb qA⟩, ⟨zB HB⟩⟩
  ·rw [if_neg c4] at H
   have c4b0 := decide_eq_false c4
   clear c4
   (first | rw [c4b0] | (simp only [i64_w, i32_w]; rw [c4b0]) | skip)
   by_cases c6 : qM < 1
   ·rw [if_pos c6] at H
    have c6b0 := decide_eq_true c6
    clear c6
    have H' := aM H
    clear H
    have j4 := zc15 qA.out
    have j5 := fun i_ : Nat => z1_ qA.out i_
    go_wp2
    go_meet
    case rel => exact ⟨_, (true), zT, H', ⟨zO⟩, ⟨zb qA⟩, ⟨zB HB⟩⟩
   ·rw [if_neg c6] at H
    have c6b0 := decide_eq_false c6
    clear c6
    by_cases c8 : qL > 8
    ·rw [if_pos c8] at H
     have c8b0 := decide_eq_true c8
     clear c8
     have H' := aM H
     clear H
     have j6 := zc15 qA.out
     have j7 := fun i_ : Nat => z1_ qA.out i_
     go_wp2
     go_meet
     case rel => exact ⟨_, (true), zT, H', ⟨zO⟩, ⟨zb qA⟩, ⟨zB HB⟩⟩
    ·rw [if_neg c8] at H
     have c8b0 := decide_eq_false c8
     clear c8
     by_cases c10 : qM > 8
     ·rw [if_pos c10] at H
      have c10b0 := decide_eq_true c10
      clear c10
      have H' := aM H
      clear H
      have jf := zc15 qA.out
      have jg := fun i_ : Nat => z1_ qA.out i_
      go_wp2
      go_meet
      case rel => exact ⟨_, (true), zT, H', ⟨zO⟩, ⟨zb qA⟩, ⟨zB HB⟩⟩
     ·rw [if_neg c10] at H
      have c10b0 := decide_eq_false c10
      clear c10
      have H' := aM H
      clear H
      have jh := zc15 qA.out
      have ji := fun i_ : Nat => z1_ qA.out i_
      go_wp2
      go_meet
      case rel => exact ⟨_, (decide (255 < qB.length)), (by first | rfl | (simp; done) | (simp [*]; done) | (simp; omega)), H', ⟨zO⟩, ⟨zb qA⟩, ⟨zB HB⟩⟩
 case rest =>
  clear HC2
  obtain ⟨kq, q3, rfl, HA, HJ1, qA, HB⟩ := hcut
  cases kq with
  | zero => exact absurd HA.out (by simp [code_May.j0])
  | succ kj1 =>
   have H := HA.out
   clear HA
   simp only [code_May.j0] at H
   by_cases c13 : q3 = true
   ·subst c13
    have H1 : (some 2) = some r := by rw [if_pos rfl] at H; exact H
    clear H
    have H := H1
    clear H1
    obtain rfl := Option.some.inj H
    go_wp2
    go_ret
    exact ⟨zE, zB HB⟩
   ·replace c13 := Bool.eq_false_iff.mpr c13
    subst c13
    have H1 : (code_May.l0 kj1 qB (qB.length : Int) 0 qL qM qB qO qP qI qJ qQ qR qK qC qF qG qD qE) = some r := by rw [if_neg (show ¬ (false = true) by decide)] at H; exact H
    clear H
    have H := H1
    clear H1
    have H' := aM H
    clear H
    have jj := zc15 qA.out
    have jk := fun i_ : Nat => z1_ qA.out i_
    go_wp2
    go_loopg [36] kj1 (fun kq v36 w' => ∃ (qH : Int), v36 = .int .i64 qH ∧ Aside0 (code_May.l0 kq qB (qB.length : Int) qH qL qM qB qO qP qI qJ qQ qR qK qC qF qG qD qE = some r) ∧ Aside0 (kq ≤ kj1) ∧ Aside0 (w'.heap[qN]? = some (.cells #[.int .i64 qL, .int .i64 qM, (.slice q1 qB.length q2), .int .i64 qO, .int .i64 qP, (.slice qt qI.length qu), (.slice qv qJ.length qw), .int .i64 qQ, .int .i64 qR, (.slice qx qK.length qy), (.slice qj qC.length qk), .int .i64 qF, .int .i64 qG, (.slice ql qD.length qm), (.slice qn qE.length qo)] 28 (0, 0))) ∧ Aside0 (Below w.heap.size w w'))
    case atStart => exact ⟨(0), zT, H', ⟨Nat.le_refl _⟩, ⟨zb qA⟩, ⟨zB HB⟩⟩
    case round =>
     clear H'
     try clear c13
     obtain ⟨qH, rfl, HA, HK2, qA, HB⟩ := hrel
     cases gk with
     | zero => exact absurd HA.out (by simp [code_May.l0])
     | succ k2 =>
      have H := HA.out
      clear HA
      simp only [code_May.l0] at H
      by_cases c15 : qH < (qB.length : Int)
      ·rw [if_pos c15] at H
       have c15b0 := decide_eq_true c15
       clear c15
       by_cases c16 : 0 ≤ qH
       ·rw [if_pos c16] at H
        have c16b0 := decide_eq_true c16
        clear c16
        by_cases c17 : qH < (qB.length : Int)
        ·rw [if_pos c17] at H
         have c17b0 := decide_eq_true c17
         clear c17
         replace H := zbs H
         obtain ⟨q4, A180, H⟩ := H
         replace H : (if q4 = true then (code_May.l0 k2 qB (qB.length : Int) (wrap64 (qH + 1)) qL qM qB qO qP qI qJ qQ qR qK qC qF qG qD qE) else (some 2)) = some r := H
         have A18 := aM A180
         clear A180
         by_cases c19 : q4 = true
         ·subst c19
          have H1 : (code_May.l0 k2 qB (qB.length : Int) (wrap64 (qH + 1)) qL qM qB qO qP qI qJ qQ qR qK qC qF qG qD qE) = some r := by rw [if_pos rfl] at H; exact H
          clear H
          have H := H1
          clear H1
          have H' := aM H
          clear H
          have p141 : 0 ≤ (qH : Int) := of_decide_eq_true za
          have q141 : qH < (qB.length : Int) := of_decide_eq_true za
          obtain ⟨ad141, e141, hx141_0, hx141_1⟩ := at_T48 jP.out qH p141 q141
          cases e141
          replace hx141_0 := (HB.out.cell (World.block_lt_of_cell? w _ hx141_0)).trans hx141_0
          replace hx141_1 := (HB.out.cell (World.block_lt_of_cell? w _ hx141_1)).trans hx141_1
          replace p141 := eq_true p141
          replace q141 := eq_true q141
          go_wp2_with (first | ((with_reducible refine gate_dst (N := 4) rfl ?_); (try (refine gate_guard (by rfl) ?_; dsimp only)); refine z16_ rfl (N := 4) rfl (cs := #[.int .i64 0, .int .i64 0]) (t := 48) zG ?_; intro qh hg w20 hbox hb; have qi := aM (hbox); have ja := aM ((by rw [hg]; exact (z4_ (zB HB)) : w.heap.size ≤ qh)); have jb := aM ((by rw [hg]; exact (z4_ (zB HB)) : w.heap.size ≤ qh)); replace HB := aM (z6_ (zB HB) hb); have qz := aM ((by rw [hg]; exact Nat.ne_of_lt (z19_ (g := qN) (lK qA)) : qN ≠ qh)); have q0 := aM ((by rw [hg]; exact Nat.ne_of_gt (z19_ (g := qN) (lK qA)) : qh ≠ qN)); replace qA := aM (z5_ (g := qN) (lK qA) hb); clear hb hbox hg; have yB := q0.out; have yC := qz.out; have jl := zc2 qi.out; have jm := fun i_ : Nat => z1_ qi.out i_) | ((with_reducible refine gate_callee (f := 38) rfl ?_); refine z13_ (some 41) rfl rfl Try.func38 zk rfl #[.agg #[.int .i64 ((rd_T48 qB qH).f0), .int .i64 ((rd_T48 qB qH).f1)]] rfl zA ?_; (with_reducible refine (point_In.calls ((rd_T48 qB qH).f0) ((rd_T48 qB qH).f1) true _ A18.out).mono ?_); rintro e w23 ⟨rfl, hb⟩; refine ⟨_, rfl, ?_⟩; replace qA := aM (z5_ (g := qN) (zb qA) hb); replace qi := aM (z5_ (g := qh) (o := .cells #[.int .i64 ((rd_T48 qB qH).f0), .int .i64 ((rd_T48 qB qH).f1)] 48 (0, 0)) (by refine lZ ?_; refine blk_put (cs := #[.int .i64 ((rd_T48 qB qH).f0), .int .i64 0]) ?_ 1 _ rfl; refine lZ ?_; refine blk_put (cs := #[.int .i64 0, .int .i64 0]) ?_ 0 _ rfl; refine lZ ?_; exact qi.out) hb); replace HB := aM (z6_ (zB HB) hb); (try clear hb)))
          go_roundg k2
          case measure => have := HJ1.out; have := HK2.out; omega
          case rel => exact ⟨(wrap64 (qH + 1)), zT, H', ⟨by have := HJ1.out; have := HK2.out; omega⟩, ⟨zb qA⟩, ⟨zB HB⟩⟩
         ·replace c19 := Bool.eq_false_iff.mpr c19
          subst c19
          have H1 : (some 2) = some r := by rw [if_neg (show ¬ (false = true) by decide)] at H; exact H
          clear H
          have H := H1
          clear H1
          obtain rfl := Option.some.inj H
          have p141 : 0 ≤ (qH : Int) := of_decide_eq_true za
          have q141 : qH < (qB.length : Int) := of_decide_eq_true za
          obtain ⟨ad141, e141, hx141_0, hx141_1⟩ := at_T48 jP.out qH p141 q141
          cases e141
          replace hx141_0 := (HB.out.cell (World.block_lt_of_cell? w _ hx141_0)).trans hx141_0
          replace hx141_1 := (HB.out.cell (World.block_lt_of_cell? w _ hx141_1)).trans hx141_1
          replace p141 := eq_true p141
          replace q141 := eq_true q141
          go_wp2_with (first | ((with_reducible refine gate_dst (N := 4) rfl ?_); (try (refine gate_guard (by rfl) ?_; dsimp only)); refine z16_ rfl (N := 4) rfl (cs := #[.int .i64 0, .int .i64 0]) (t := 48) zG ?_; intro qh hg w24 hbox hb; have qi := aM (hbox); have ja := aM ((by rw [hg]; exact (z4_ (zB HB)) : w.heap.size ≤ qh)); have jb := aM ((by rw [hg]; exact (z4_ (zB HB)) : w.heap.size ≤ qh)); replace HB := aM (z6_ (zB HB) hb); have qz := aM ((by rw [hg]; exact Nat.ne_of_lt (z19_ (g := qN) (lK qA)) : qN ≠ qh)); have q0 := aM ((by rw [hg]; exact Nat.ne_of_gt (z19_ (g := qN) (lK qA)) : qh ≠ qN)); replace qA := aM (z5_ (g := qN) (lK qA) hb); clear hb hbox hg; have yD := q0.out; have yE := qz.out; have jn := zc2 qi.out; have jo := fun i_ : Nat => z1_ qi.out i_) | ((with_reducible refine gate_callee (f := 38) rfl ?_); refine z13_ (some 41) rfl rfl Try.func38 zk rfl #[.agg #[.int .i64 ((rd_T48 qB qH).f0), .int .i64 ((rd_T48 qB qH).f1)]] rfl zA ?_; (with_reducible refine (point_In.calls ((rd_T48 qB qH).f0) ((rd_T48 qB qH).f1) false _ A18.out).mono ?_); rintro e w27 ⟨rfl, hb⟩; refine ⟨_, rfl, ?_⟩; replace qA := aM (z5_ (g := qN) (zb qA) hb); replace qi := aM (z5_ (g := qh) (o := .cells #[.int .i64 ((rd_T48 qB qH).f0), .int .i64 ((rd_T48 qB qH).f1)] 48 (0, 0)) (by refine lZ ?_; refine blk_put (cs := #[.int .i64 ((rd_T48 qB qH).f0), .int .i64 0]) ?_ 1 _ rfl; refine lZ ?_; refine blk_put (cs := #[.int .i64 0, .int .i64 0]) ?_ 0 _ rfl; refine lZ ?_; exact qi.out) hb); replace HB := aM (z6_ (zB HB) hb); (try clear hb)))
          go_ret
          exact ⟨zE, zB HB⟩
        ·rw [if_neg c17] at H
         exact absurd H (by simp)
       ·rw [if_neg c16] at H
        exact absurd H (by simp)
      ·rw [if_neg c15] at H
       have c15b0 := decide_eq_false c15
       clear c15
       replace H := zbs H
       obtain ⟨jW, A280, H⟩ := H
       replace H : (code_May.l1 k2 0 qL qM qB qO qP qI qJ qQ qR qK qC qF qG qD qE) = some r := H
       have A28 := aM A280
       clear A280
       have H' := aM H
       clear H
       go_wp2_with (first | ((with_reducible refine gate_callee (f := 27) rfl ?_); refine z13_ (some 44) rfl rfl Try.func27 zk rfl #[.pointer (some ⟨qN, 0, none⟩)] rfl zA ?_; (with_reducible refine (code_programs.calls 140 jW qN _ A28.out).mono ?_); rintro e w29 ⟨rfl, hb⟩; refine ⟨_, rfl, ?_⟩; replace qA := aM (z5_ (g := qN) (lK qA) hb); replace HB := aM (z6_ (zB HB) hb); (try clear hb)))
       go_loopg [45] k2 (fun kq v45 w' => ∃ (qp : Int), v45 = .int .i64 qp ∧ Aside0 (code_May.l1 kq qp qL qM qB qO qP qI qJ qQ qR qK qC qF qG qD qE = some r) ∧ Aside0 (kq ≤ k2) ∧ Aside0 (w'.heap[qN]? = some (.cells #[.int .i64 qL, .int .i64 qM, (.slice q1 qB.length q2), .int .i64 qO, .int .i64 qP, (.slice qt qI.length qu), (.slice qv qJ.length qw), .int .i64 qQ, .int .i64 qR, (.slice qx qK.length qy), (.slice qj qC.length qk), .int .i64 qF, .int .i64 qG, (.slice ql qD.length qm), (.slice qn qE.length qo)] 28 (0, 0))) ∧ Aside0 (Below w.heap.size w w'))
       case atStart => exact ⟨(0), zT, H', ⟨Nat.le_refl _⟩, ⟨zb qA⟩, ⟨zB HB⟩⟩
       case round =>
        clear H'
        try clear c13
        try clear c15
        obtain ⟨qp, rfl, HA, HK3, qA, HB⟩ := hrel
        cases gk with
        | zero => exact absurd HA.out (by simp [code_May.l1])
        | succ k3 =>
         have H := HA.out
         clear HA
         simp only [code_May.l1] at H
         by_cases c30 : qp < 3
         ·rw [if_pos c30] at H
          have c30b0 := decide_eq_true c30
          clear c30
          by_cases c31 : qp = 0
          ·rw [if_pos c31] at H
           (first | rw [c31] | skip)
           replace H := zbs H
           obtain ⟨⟨jX, qq⟩, A320, H⟩ := H
           replace H : (if qq = 0 then (code_May.l1 k3 (0 + 1) qL qM qB qO qP qI qJ qQ qR qK qC qF qG qD qE) else (some qq)) = some r := H
           have A32 := aM A320
           clear A320
           by_cases c33 : qq = 0
           ·rw [if_pos c33] at H
            have c33b0 : (qq == 0) = true := beq_iff_eq.mpr c33
            have c33b1 : (qq != 0) = false := bne_eq_false_iff_eq.mpr c33
            clear c33
            have H' := aM H
            clear H
            have jp := zc15 qA.out
            have jq := fun i_ : Nat => z1_ qA.out i_
            go_wp2_with (first | ((with_reducible refine gate_callee (f := 39) rfl ?_); refine z13_ (some 52) rfl rfl Try.func39 zk rfl #[.agg #[.int .i64 qO, .int .i64 qP, .slice qt qI.length qu, .slice qv qJ.length qw]] rfl zA ?_; (with_reducible refine (prog_Check.calls k3 qO qP _ _ qI _ _ qJ jX qq _ ?side1 ?side2 ?side3 ?side4 A32.out).mono ?_); (case side1 => refine lY ?_; exact (Kd.z8_ jQ.out HB.out)); (case side2 => exact jR.out); (case side3 => refine lY ?_; exact (Kd.z8_ jS.out HB.out)); (case side4 => exact jT.out); rintro e w35 ⟨rfl, hb⟩; refine ⟨_, rfl, ?_⟩; replace qA := aM (z5_ (g := qN) (lK qA) hb); replace HB := aM (z6_ (zB HB) hb); (try clear hb)))
            go_roundg k3
            case measure => have := HJ1.out; have := HK2.out; have := HK3.out; omega
            case rel => exact ⟨(0 + 1), zT, H', ⟨by have := HJ1.out; have := HK2.out; have := HK3.out; omega⟩, ⟨zb qA⟩, ⟨zB HB⟩⟩
           ·rw [if_neg c33] at H
            have c33b0 : (qq == 0) = false := beq_eq_false_iff_ne.mpr c33
            have c33b1 : (qq != 0) = true := bne_iff_ne.mpr c33
            obtain rfl := Option.some.inj H
            have jr := zc15 qA.out
            have js := fun i_ : Nat => z1_ qA.out i_
            go_wp2_with (first | ((with_reducible refine gate_callee (f := 39) rfl ?_); refine z13_ (some 52) rfl rfl Try.func39 zk rfl #[.agg #[.int .i64 qO, .int .i64 qP, .slice qt qI.length qu, .slice qv qJ.length qw]] rfl zA ?_; (with_reducible refine (prog_Check.calls k3 qO qP _ _ qI _ _ qJ jX qq _ ?side1 ?side2 ?side3 ?side4 A32.out).mono ?_); (case side1 => refine lY ?_; exact (Kd.z8_ jQ.out HB.out)); (case side2 => exact jR.out); (case side3 => refine lY ?_; exact (Kd.z8_ jS.out HB.out)); (case side4 => exact jT.out); rintro e w37 ⟨rfl, hb⟩; refine ⟨_, rfl, ?_⟩; replace qA := aM (z5_ (g := qN) (lK qA) hb); replace HB := aM (z6_ (zB HB) hb); (try clear hb)))
            go_ret
            exact ⟨zE, zB HB⟩
          ·rw [if_neg c31] at H
           by_cases c38 : qp = 1
           ·rw [if_pos c38] at H
            (first | rw [c38] | skip)
            replace H := zbs H
            obtain ⟨⟨jY, qr⟩, A390, H⟩ := H
            replace H : (if qr = 0 then (code_May.l1 k3 (1 + 1) qL qM qB qO qP qI qJ qQ qR qK qC qF qG qD qE) else (some qr)) = some r := H
            have A39 := aM A390
            clear A390
            by_cases c40 : qr = 0
            ·rw [if_pos c40] at H
             have c40b0 : (qr == 0) = true := beq_iff_eq.mpr c40
             have c40b1 : (qr != 0) = false := bne_eq_false_iff_eq.mpr c40
             clear c40
             have H' := aM H
             clear H
             have jt := zc15 qA.out
             have ju := fun i_ : Nat => z1_ qA.out i_
             go_wp2_with (first | ((with_reducible refine gate_callee (f := 39) rfl ?_); refine z13_ (some 52) rfl rfl Try.func39 zk rfl #[.agg #[.int .i64 qQ, .int .i64 qR, .slice qx qK.length qy, .slice qj qC.length qk]] rfl zA ?_; (with_reducible refine (prog_Check.calls k3 qQ qR _ _ qK _ _ qC jY qr _ ?side1 ?side2 ?side3 ?side4 A39.out).mono ?_); (case side1 => refine lY ?_; exact (Kd.z8_ jU.out HB.out)); (case side2 => exact jV.out); (case side3 => refine lY ?_; exact (Kd.z8_ jB.out HB.out)); (case side4 => exact jC.out); rintro e w42 ⟨rfl, hb⟩; refine ⟨_, rfl, ?_⟩; replace qA := aM (z5_ (g := qN) (lK qA) hb); replace HB := aM (z6_ (zB HB) hb); (try clear hb)))
             go_roundg k3
             case measure => have := HJ1.out; have := HK2.out; have := HK3.out; omega
             case rel => exact ⟨(1 + 1), zT, H', ⟨by have := HJ1.out; have := HK2.out; have := HK3.out; omega⟩, ⟨zb qA⟩, ⟨zB HB⟩⟩
            ·rw [if_neg c40] at H
             have c40b0 : (qr == 0) = false := beq_eq_false_iff_ne.mpr c40
             have c40b1 : (qr != 0) = true := bne_iff_ne.mpr c40
             obtain rfl := Option.some.inj H
             have jv := zc15 qA.out
             have jw := fun i_ : Nat => z1_ qA.out i_
             go_wp2_with (first | ((with_reducible refine gate_callee (f := 39) rfl ?_); refine z13_ (some 52) rfl rfl Try.func39 zk rfl #[.agg #[.int .i64 qQ, .int .i64 qR, .slice qx qK.length qy, .slice qj qC.length qk]] rfl zA ?_; (with_reducible refine (prog_Check.calls k3 qQ qR _ _ qK _ _ qC jY qr _ ?side1 ?side2 ?side3 ?side4 A39.out).mono ?_); (case side1 => refine lY ?_; exact (Kd.z8_ jU.out HB.out)); (case side2 => exact jV.out); (case side3 => refine lY ?_; exact (Kd.z8_ jB.out HB.out)); (case side4 => exact jC.out); rintro e w44 ⟨rfl, hb⟩; refine ⟨_, rfl, ?_⟩; replace qA := aM (z5_ (g := qN) (lK qA) hb); replace HB := aM (z6_ (zB HB) hb); (try clear hb)))
             go_ret
             exact ⟨zE, zB HB⟩
           ·rw [if_neg c38] at H
            by_cases c45 : qp = 2
            ·rw [if_pos c45] at H
             (first | rw [c45] | skip)
             replace H := zbs H
             obtain ⟨⟨jZ, qs⟩, A460, H⟩ := H
             replace H : (if qs = 0 then (code_May.l1 k3 (2 + 1) qL qM qB qO qP qI qJ qQ qR qK qC qF qG qD qE) else (some qs)) = some r := H
             have A46 := aM A460
             clear A460
             by_cases c47 : qs = 0
             ·rw [if_pos c47] at H
              have c47b0 : (qs == 0) = true := beq_iff_eq.mpr c47
              have c47b1 : (qs != 0) = false := bne_eq_false_iff_eq.mpr c47
              clear c47
              have H' := aM H
              clear H
              have jx := zc15 qA.out
              have jy := fun i_ : Nat => z1_ qA.out i_
              go_wp2_with (first | ((with_reducible refine gate_callee (f := 39) rfl ?_); refine z13_ (some 52) rfl rfl Try.func39 zk rfl #[.agg #[.int .i64 qF, .int .i64 qG, .slice ql qD.length qm, .slice qn qE.length qo]] rfl zA ?_; (with_reducible refine (prog_Check.calls k3 qF qG _ _ qD _ _ qE jZ qs _ ?side1 ?side2 ?side3 ?side4 A46.out).mono ?_); (case side1 => refine lY ?_; exact (Kd.z8_ jD.out HB.out)); (case side2 => exact jE.out); (case side3 => refine lY ?_; exact (Kd.z8_ jF.out HB.out)); (case side4 => exact jG.out); rintro e w49 ⟨rfl, hb⟩; refine ⟨_, rfl, ?_⟩; replace qA := aM (z5_ (g := qN) (lK qA) hb); replace HB := aM (z6_ (zB HB) hb); (try clear hb)))
              go_roundg k3
              case measure => have := HJ1.out; have := HK2.out; have := HK3.out; omega
              case rel => exact ⟨(2 + 1), zT, H', ⟨by have := HJ1.out; have := HK2.out; have := HK3.out; omega⟩, ⟨zb qA⟩, ⟨zB HB⟩⟩
             ·rw [if_neg c47] at H
              have c47b0 : (qs == 0) = false := beq_eq_false_iff_ne.mpr c47
              have c47b1 : (qs != 0) = true := bne_iff_ne.mpr c47
              obtain rfl := Option.some.inj H
              have jz := zc15 qA.out
              have j1 := fun i_ : Nat => z1_ qA.out i_
              go_wp2_with (first | ((with_reducible refine gate_callee (f := 39) rfl ?_); refine z13_ (some 52) rfl rfl Try.func39 zk rfl #[.agg #[.int .i64 qF, .int .i64 qG, .slice ql qD.length qm, .slice qn qE.length qo]] rfl zA ?_; (with_reducible refine (prog_Check.calls k3 qF qG _ _ qD _ _ qE jZ qs _ ?side1 ?side2 ?side3 ?side4 A46.out).mono ?_); (case side1 => refine lY ?_; exact (Kd.z8_ jD.out HB.out)); (case side2 => exact jE.out); (case side3 => refine lY ?_; exact (Kd.z8_ jF.out HB.out)); (case side4 => exact jG.out); rintro e w51 ⟨rfl, hb⟩; refine ⟨_, rfl, ?_⟩; replace qA := aM (z5_ (g := qN) (lK qA) hb); replace HB := aM (z6_ (zB HB) hb); (try clear hb)))
              go_ret
              exact ⟨zE, zB HB⟩
            ·rw [if_neg c45] at H
             exact absurd H (by simp)
         ·rw [if_neg c30] at H
          have c30b0 := decide_eq_false c30
          clear c30
          obtain rfl := Option.some.inj H
          go_wp2
          go_ret
          exact ⟨zE, zB HB⟩
end Go.Proofs.Ytccbdcbeinkjgaa.XA
end
